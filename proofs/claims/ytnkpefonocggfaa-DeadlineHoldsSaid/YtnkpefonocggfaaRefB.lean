/-
  Chapter 10 (deadline), part RefB: contracts of functions that the laws call, each for the heap it names.
-/
import Derived.Test.YtnkpefonocggfaaRows
import Derived.Test.YtnkpefonocggfaaSLPhase
import Derived.Test.YtnkpefonocggfaaSLInt
import Derived.Test.YtnkpefonocggfaaTab
import Derived.Test.YtnkpefonocggfaaRefA
set_option linter.unusedVariables false
set_option maxRecDepth 20000
set_option maxHeartbeats 2000000
namespace Go.Proofs.Ytnkpefonocggfaa


structure RnW where
  j : Nat
  o : List Nat
  ob : Option Nat
  c : Nat
  tl : List Value
structure RsW where
  j : Nat
  o : List Lp
  ob : Option Nat
  c : Nat
  tl : List Value
section
variable {f : Nat → Nat} {now : Nat}
theorem rset_bad (D : List Lp) (ob : Option Nat) (c : Nat) (tl : List Value) (hr : RD f D) (own : Own ob D.length c 3 (D.flatMap encLp) tl) (fd dir : Int) (h : spotE fd dir = 2) (k : Nat) : Spec Try.prog 18 [.agg #[.int .u64 (now : Int), slV ob D.length c], .agg #[.int .i64 (fd), .int .i64 (dir)], .int .u64 (k : Int)] [⟨ob, cl (D.flatMap encLp ++ tl) 40⟩] (fun r H' => r = .tuple #[.agg #[.int .u64 (now : Int), slV ob D.length c], .bool false, .int .i64 2] ∧ H' = [⟨ob, cl (D.flatMap encLp ++ tl) 40⟩]) := by
  refine Spec.of (E := [(0, .agg #[.int .u64 (now : Int), slV ob D.length c]), (1, .agg #[.int .i64 (fd), .int .i64 (dir)]), (2, .int .u64 (k : Int))]) Try.func18 rfl (by kernel_rfl) Try.ntmps18 rfl rfl (fun w => ?_)
  refine WC_seq ?_
  refine WC_region ?_
  refine WL_do rfl rfl rfl (D_box (cs := [_, _]) rfl rfl rfl) ?_
  rintro _ _ ⟨b1, rfl, rfl⟩
  refine WL_do rfl rfl rfl (D_box (cs := [_, _]) rfl rfl rfl) ?_
  rintro _ _ ⟨b2, rfl, rfl⟩
  refine WL_do rfl rfl rfl (D_alloc rfl zv44) ?_
  rintro _ _ ⟨b3, rfl, rfl⟩
  refine WL_val rfl rfl rfl (R_assign rfl rfl) ?_
  refine WL_val rfl rfl rfl (R_assign rfl rfl) ?_
  refine WL_nil ?_
  refine WQ_code ?_
  refine WC_seq ?_
  refine WC_seq ?_
  refine WC_region ?_
  refine WL_val rfl rfl rfl (R_loadA (vs := [_, _]) rfl ag24 rfl (by repeat (first | exact List.Mem.head _ | refine List.Mem.tail _ ?_)) rfl (by repeat (first | exact At.nil | refine At.cons ?_ | refine At.succ ?_))) ?_
  refine WL_do rfl rfl rfl (D_call (spot_ok fd dir) rfl rfl rfl rfl (by repeat (first | exact Pulls.nil | exact Pulls.all | (apply Pulls.cons; (repeat (first | exact Pull.head | apply Pull.tail))) | apply Pulls.skip))) ?_
  rintro _ _ ⟨_, ⟨rfl, rfl⟩, rfl⟩
  refine WL_val rfl rfl rfl (R_notD rfl rfl) ?_
  refine WL_nil ?_
  refine WQ_code ?_
  refine WC_dT rfl (by rw [h]; decide) ?_
  refine WC_seq ?_
  refine WC_region ?_
  refine WL_val rfl rfl rfl (R_loadA (vs := [_, _]) rfl ag44 rfl (by repeat (first | exact List.Mem.head _ | refine List.Mem.tail _ ?_)) rfl (by repeat (first | exact At.nil | refine At.cons ?_ | refine At.succ ?_))) ?_
  refine WL_do0 rfl rfl (D_store (vs := [_, _]) rfl Try.sizeOf44 rfl rfl rfl rfl rfl (by repeat (first | exact Pull.head | apply Pull.tail)) (by exact Nat.le_of_ble_eq_true rfl)) ?_
  rintro _ _ rfl
  refine WL_val rfl rfl rfl (R_assign rfl rfl) ?_
  refine WL_val rfl rfl rfl (R_assign rfl rfl) ?_
  refine WL_nil ?_
  refine WQ_code ?_
  refine WC_ret ?_
  refine WQ_ret rfl rfl (.cons (.cell (vs := [_, _]) rfl ag44 (by repeat (first | exact List.Mem.head _ | refine List.Mem.tail _ ?_)) rfl (by repeat (first | exact At.nil | refine At.cons ?_ | refine At.succ ?_))) (.cons (.tmp rfl) (.cons (.tmp rfl) .nil))) rfl (by
      exact ⟨rfl, rfl⟩) (by repeat (first | exact Pulls.nil | exact Pulls.all | (apply Pulls.cons; (repeat (first | exact Pull.head | apply Pull.tail))) | apply Pulls.skip))
theorem rset_ok (D : List Lp) (ob : Option Nat) (c : Nat) (tl : List Value) (hr : RD f D) (own : Own ob D.length c 3 (D.flatMap encLp) tl) (hnow : now < 18446744073709551615) (fd dir : Nat) (h1 : fd < 128) (h2 : dir < 2) (k : Nat) (hk : k ≤ 18446744073709551615) : Spec Try.prog 18 [.agg #[.int .u64 (now : Int), slV ob D.length c], .agg #[.int .i64 (fd : Int), .int .i64 (dir : Int)], .int .u64 (k : Int)] [⟨ob, cl (D.flatMap encLp ++ tl) 40⟩]
    (fun r H' => ∃ (D' : List Lp) (ob' : Option Nat) (c' : Nat) (tl' : List Value), r = .tuple #[.agg #[.int .u64 (now : Int), slV ob' D'.length c'], .bool (decide (k ≠ 18446744073709551615 ∧ k ≤ now)), .int .i64 0] ∧ Own ob' D'.length c' 3 (D'.flatMap encLp) tl' ∧ RD (updF f (2 * fd + dir) k) D' ∧ H' = [⟨ob', cl (D'.flatMap encLp ++ tl') 40⟩, ⟨ob, cl (D.flatMap encLp ++ tl) 40⟩]) := by
  have hlen := hr.len
  have hsp : spotE (fd : Int) (dir : Int) = 0 := by unfold spotE; split <;> omega
  have e1 : ((2 * fd + dir) / 2 : Nat) = fd := by omega
  have e2 : ((2 * fd + dir) % 2 : Nat) = dir := by omega
  refine Spec.of (E := [(0, .agg #[.int .u64 (now : Int), slV ob D.length c]), (1, .agg #[.int .i64 (fd : Int), .int .i64 (dir : Int)]), (2, .int .u64 (k : Int))]) Try.func18 rfl (by kernel_rfl) Try.ntmps18 rfl rfl (fun w => ?_)
  refine WC_seq ?_
  refine WC_region ?_
  refine WL_do rfl rfl rfl (D_box (cs := [_, _]) rfl rfl rfl) ?_
  rintro _ _ ⟨b1, rfl, rfl⟩
  refine WL_do rfl rfl rfl (D_box (cs := [_, _]) rfl rfl rfl) ?_
  rintro _ _ ⟨b2, rfl, rfl⟩
  refine WL_do rfl rfl rfl (D_alloc rfl zv44) ?_
  rintro _ _ ⟨b3, rfl, rfl⟩
  refine WL_val rfl rfl rfl (R_assign rfl rfl) ?_
  refine WL_val rfl rfl rfl (R_assign rfl rfl) ?_
  refine WL_nil ?_
  refine WQ_code ?_
  refine WC_seq ?_
  refine WC_seq ?_
  refine WC_region ?_
  refine WL_val rfl rfl rfl (R_loadA (vs := [_, _]) rfl ag24 rfl (by repeat (first | exact List.Mem.head _ | refine List.Mem.tail _ ?_)) rfl (by repeat (first | exact At.nil | refine At.cons ?_ | refine At.succ ?_))) ?_
  refine WL_do rfl rfl rfl (D_call (spot_ok (fd : Int) (dir : Int)) rfl rfl rfl rfl (by repeat (first | exact Pulls.nil | exact Pulls.all | (apply Pulls.cons; (repeat (first | exact Pull.head | apply Pull.tail))) | apply Pulls.skip))) ?_
  rintro _ _ ⟨_, ⟨rfl, rfl⟩, rfl⟩
  refine WL_val rfl rfl rfl (R_notD rfl rfl) ?_
  refine WL_nil ?_
  refine WQ_code ?_
  refine WC_dF rfl (by rw [hsp]; decide) ?_
  refine WC_skip ?_
  refine WQ_code ?_
  refine WC_seq ?_
  refine WC_region ?_
  refine WL_val rfl rfl rfl (R_fieldAddr rfl fa44_0 rfl) ?_
  refine WL_val rfl rfl rfl (R_load rfl sc26 rfl (by repeat (first | exact List.Mem.head _ | refine List.Mem.tail _ ?_)) rfl) ?_
  refine WL_val rfl rfl rfl (R_build rfl zv44 pl44 rfl rfl) ?_
  refine WL_do rfl rfl rfl (D_alloc rfl zv44) ?_
  rintro _ _ ⟨b4, rfl, rfl⟩
  refine WL_do0 rfl rfl (D_store (vs := [_, _]) rfl Try.sizeOf44 rfl rfl rfl rfl rfl (by repeat (first | exact Pull.head | apply Pull.tail)) (by exact Nat.le_of_ble_eq_true rfl)) ?_
  rintro _ _ rfl
  refine WL_nil ?_
  refine WQ_code ?_
  refine WC_seq ?_
  refine WC_seq ?_
  refine WC_region ?_
  refine WL_val rfl rfl rfl (R_assign rfl rfl) ?_
  refine WL_nil ?_
  refine WQ_code ?_
  refine WC_block ?_
  refine WC_none 40 ?_
  refine WC_loopF (G := RsW) [10, 18, 19, 20, 21, 22, 23, 24, 25, 26, 27, 28, 29, 30, 31, 32, 33, 34, 35, 36, 37, 38, 39, 40, 41, 42] (fun y => y.j ≤ D.length ∧ y.o = dropP (D.take y.j) (fd : Int) (dir : Int) ∧ Own y.ob y.o.length y.c 3 (y.o.flatMap encLp) y.tl) (fun y => [(10, .int .i64 (y.j : Int))]) (fun y => [⟨some b4, cl [.int .u64 (now : Int), slV y.ob y.o.length y.c] 44⟩, ⟨y.ob, cl (y.o.flatMap encLp ++ y.tl) 40⟩]) (fun y => D.length - y.j) (⟨0, [], none, 0, []⟩) (⟨Nat.zero_le _, rfl, Own.empty 3⟩) (Le.lq (by repeat (first | exact Le.nil | refine Le.cons rfl (by first | rfl | (congr 1; omega)) ?_))) (by repeat (first | exact Pulls.nil | exact Pulls.all | (apply Pulls.cons; (repeat (first | exact Pull.head | apply Pull.tail))) | apply Pulls.skip)) ?_
  rintro y ⟨hj, ho, hw⟩
  have hol : y.o.length ≤ 256 := by rw [ho]; exact Nat.le_trans (List.length_filter_le _ _) (by rw [List.length_take]; omega)
  refine WC_seq ?_
  refine WC_seq ?_
  refine WC_region ?_
  refine WL_val rfl rfl rfl (R_move rfl rfl) ?_
  refine WL_val rfl rfl rfl (R_fieldAddr rfl fa44_1 rfl) ?_
  refine WL_val rfl rfl rfl (R_load rfl sc42 rfl (by repeat (first | exact List.Mem.head _ | refine List.Mem.tail _ ?_)) rfl) ?_
  refine WL_val rfl rfl rfl (R_len rfl Try.underlying42 rfl) ?_
  refine WL_val rfl rfl rfl (R_lss rfl rfl rfl) ?_
  refine WL_nil ?_
  refine WQ_code ?_
  refine WC_dec rfl (fun c1 => ?_) (fun c1 => ?_)
  · refine WC_skip ?_
    refine WQ_code ?_
    refine WC_seq ?_
    refine WC_block ?_
    refine WC_seq ?_
    refine WC_draw _ [(0, true), (1, true), (2, true), (3, true), (4, true), (5, true), (6, true), (7, true)] followsMixed rfl rfl (by kernel_rfl) .all ?_
    obtain ⟨x, hx⟩ := exE (T := D) (i := y.j) (by omega)
    obtain ⟨bb, rfl⟩ := own.some_of (by omega)
    refine WM_val rfl rfl rfl rfl (R_fieldAddr rfl fa44_1 rfl) ?_
    refine WM_val rfl rfl rfl rfl (R_load rfl sc42 rfl (by repeat (first | exact List.Mem.head _ | refine List.Mem.tail _ ?_)) rfl) ?_
    refine WM_val rfl rfl rfl rfl (R_move rfl rfl) ?_
    refine WM_val rfl rfl rfl rfl (R_indexAddrN rfl Try.underlying42 Try.sizeOf40 rfl rfl (by omega)) ?_
    refine WM_val rfl rfl rfl rfl (R_fieldAddr rfl fa40_0 rfl) ?_
    refine WM_val rfl rfl rfl rfl (R_loadA (vs := [.int .i64 x.fd, .int .i64 x.dir]) rfl ag24 rfl (by repeat (first | exact List.Mem.head _ | refine List.Mem.tail _ ?_)) rfl (fm_at0 encLp3 hx (j := 0) (vs := [.int .i64 x.fd, .int .i64 x.dir]) (by repeat (first | exact At.nil | refine At.cons ?_ | refine At.succ ?_)) (by simp))) ?_
    refine WM_val rfl rfl rfl rfl (R_loadA (vs := [_, _]) rfl ag24 rfl (by repeat (first | exact List.Mem.head _ | refine List.Mem.tail _ ?_)) rfl (by repeat (first | exact At.nil | refine At.cons ?_ | refine At.succ ?_))) ?_
    refine WM_val rfl rfl rfl rfl (R_sne24 rfl rfl rfl rfl) ?_
    refine WM_nil ?_
    refine WQ_code ?_
    refine WC_dec rfl (fun c2 => ?_) (fun c2 => ?_)
    · refine WC_drawBR [⟨some b4, _⟩, ⟨(y.ob), _⟩] [(0, .q), (2, .q), (3, .q), (4, .q), (5, .q), (6, .q), (1, .n [7]), (7, .b []), (8, .n []), (9, .q), (10, .n [])] followsMixed rfl rfl (by kernel_rfl) (by repeat (first | exact Pulls.nil | exact Pulls.all | (apply Pulls.cons; (repeat (first | exact Pull.head | apply Pull.tail))) | apply Pulls.skip)) ?_
      refine WB_val rfl rfl rfl rfl (R_fieldAddr rfl fa44_1 rfl) ?_
      refine WB_val rfl rfl rfl rfl (R_fieldAddr rfl fa44_1 rfl) ?_
      refine WB_val rfl rfl rfl rfl (R_load rfl sc42 rfl (by repeat (first | exact List.Mem.head _ | refine List.Mem.tail _ ?_)) rfl) ?_
      refine WB_val rfl rfl rfl rfl (R_move rfl rfl) ?_
      refine WB_val rfl rfl rfl rfl (R_indexAddrN rfl Try.underlying42 Try.sizeOf40 rfl rfl (by omega)) ?_
      refine WB_val rfl rfl rfl rfl (R_loadA (vs := [.int .i64 x.fd, .int .i64 x.dir, .int .u64 (x.at_ : Int)]) rfl ag40 rfl (by repeat (first | exact List.Mem.head _ | refine List.Mem.tail _ ?_)) rfl (fm_at0 encLp3 hx (j := 0) (vs := [.int .i64 x.fd, .int .i64 x.dir, .int .u64 (x.at_ : Int)]) (by repeat (first | exact At.nil | refine At.cons ?_ | refine At.succ ?_)) (by simp))) ?_
      refine WB_do rfl rfl rfl rfl (.cons rfl rfl (B_buildSlice rfl si42 rfl rfl rfl) .nil) (fun _ => Runs.does (R_load rfl sc42 rfl (by repeat (first | exact List.Mem.head _ | refine List.Mem.tail _ ?_)) rfl)) ?_
      rintro _ _ ⟨rfl, rfl⟩
      refine ⟨⟨_, by repeat (first | exact Pulls.nil | exact Pulls.all | (apply Pulls.cons; (repeat (first | exact Pull.head | apply Pull.tail))) | apply Pulls.skip)⟩, ?_⟩
      refine WB_birth rfl rfl rfl rfl .nil (B_buildSlice rfl si42 rfl rfl rfl) (fun b5 => ?_)
      refine WB_do rfl rfl rfl rfl .nil (fun _ => D_append rfl si42 rfl (hw) (by repeat (first | exact Pull.head | apply Pull.tail)) rfl (by repeat (first | exact List.Mem.head _ | refine List.Mem.tail _ ?_)) ((by repeat (first | exact At.nil | refine At.cons ?_ | refine At.succ ?_) : At _ 0 [_, _, _])) (rfl) (rfl) (by omega) (by omega)) ?_
      rintro _ _ ⟨ob6, cap6, tl6, rfl, own6, rfl⟩
      refine ⟨⟨_, by repeat (first | exact Pulls.nil | exact Pulls.all | (apply Pulls.cons; (repeat (first | exact Pull.head | apply Pull.tail))) | apply Pulls.skip)⟩, ?_⟩
      rw [show y.o.flatMap encLp ++ [Value.int .i64 x.fd, .int .i64 x.dir, .int .u64 (x.at_ : Int)] = (y.o ++ [x]).flatMap encLp from by rw [List.flatMap_append]; rfl, show y.o.length + 1 = (y.o ++ [x]).length from by rw [List.length_append]; rfl] at *
      refine WB_val rfl rfl rfl rfl (R_fieldAddr rfl fa44_1 rfl) ?_
      refine WB_do0 rfl rfl rfl .nil (fun _ => D_store (vs := [_]) rfl Try.sizeOf42 rfl rfl rfl rfl rfl (by repeat (first | exact Pull.head | apply Pull.tail)) (by exact Nat.le_of_ble_eq_true rfl)) ?_
      rintro _ _ rfl
      refine ⟨⟨_, by repeat (first | exact Pulls.nil | exact Pulls.all | (apply Pulls.cons; (repeat (first | exact Pull.head | apply Pull.tail))) | apply Pulls.skip)⟩, ?_⟩
      refine WB_nil ?_
      refine WQ_code ?_
      refine WC_region ?_
      refine WL_val rfl rfl rfl (R_move rfl rfl) ?_
      refine WL_val rfl rfl rfl (R_add rfl rfl rfl (by omega)) ?_
      refine WL_val rfl rfl rfl (R_assign rfl rfl) ?_
      refine WL_nil ?_
      refine WQ_nextF (⟨y.j + 1, y.o ++ [x], ob6, cap6, tl6⟩) (⟨by dsimp only; omega, by dsimp only; rw [tk_next hx, dropP_snoc, if_neg c2, ho], own6⟩) (by dsimp only; omega) (Le.lq (by repeat (first | exact Le.nil | refine Le.cons rfl (by first | rfl | (congr 1; omega)) ?_))) (by repeat (first | exact Pushed.refl | refine Pushed.push rfl ?_)) rfl (by repeat (first | exact Pulls.nil | exact Pulls.all | (apply Pulls.cons; (repeat (first | exact Pull.head | apply Pull.tail))) | apply Pulls.skip))
    · have hsame : x.fd = (fd : Int) ∧ x.dir = (dir : Int) := by simpa using c2
      refine WC_skip ?_
      refine WQ_code ?_
      refine WC_region ?_
      refine WL_val rfl rfl rfl (R_move rfl rfl) ?_
      refine WL_val rfl rfl rfl (R_add rfl rfl rfl (by omega)) ?_
      refine WL_val rfl rfl rfl (R_assign rfl rfl) ?_
      refine WL_nil ?_
      refine WQ_nextF (⟨y.j + 1, y.o, y.ob, y.c, y.tl⟩) (⟨by dsimp only; omega, by dsimp only; rw [tk_next hx, dropP_snoc, if_pos hsame, List.append_nil, ho], hw⟩) (by dsimp only; omega) (Le.lq (by repeat (first | exact Le.nil | refine Le.cons rfl (by first | rfl | (congr 1; omega)) ?_))) (by repeat (first | exact Pushed.refl | refine Pushed.push rfl ?_)) rfl (by repeat (first | exact Pulls.nil | exact Pulls.all | (apply Pulls.cons; (repeat (first | exact Pull.head | apply Pull.tail))) | apply Pulls.skip))
  · have hfin : y.o = dropP D (fd : Int) (dir : Int) := by rw [ho, List.take_of_length_le (by omega)]
    refine WC_exit ?_
    refine WQ_code ?_
    refine WC_seq ?_
    refine WC_seq ?_
    refine WC_region ?_
    refine WL_val rfl rfl rfl (R_move rfl rfl) ?_
    refine WL_val rfl rfl rfl (R_neq rfl rfl rfl) ?_
    refine WL_nil ?_
    refine WQ_code ?_
    refine WC_dec rfl (fun c3 => ?_) (fun c3 => ?_)
    · refine WC_region ?_
      refine WL_val rfl rfl rfl (R_fieldAddr rfl fa44_1 rfl) ?_
      refine WL_val rfl rfl rfl (R_load rfl sc42 rfl (by repeat (first | exact List.Mem.head _ | refine List.Mem.tail _ ?_)) rfl) ?_
      refine WL_val rfl rfl rfl (R_loadA (vs := [_, _]) rfl ag24 rfl (by repeat (first | exact List.Mem.head _ | refine List.Mem.tail _ ?_)) rfl (by repeat (first | exact At.nil | refine At.cons ?_ | refine At.succ ?_))) ?_
      refine WL_val rfl rfl rfl (R_move rfl rfl) ?_
      refine WL_val rfl rfl rfl (R_build rfl zv40 pl40 rfl rfl) ?_
      refine WL_do rfl rfl rfl (D_buildSlice rfl si42 rfl rfl rfl) ?_
      rintro _ _ ⟨b7, rfl, rfl⟩
      refine WL_do rfl rfl rfl (D_append rfl si42 rfl (hw) (by repeat (first | exact Pull.head | apply Pull.tail)) rfl (by repeat (first | exact List.Mem.head _ | refine List.Mem.tail _ ?_)) ((by repeat (first | exact At.nil | refine At.cons ?_ | refine At.succ ?_) : At _ 0 [_, _, _])) (rfl) (rfl) (by omega) (by omega)) ?_
      rintro _ _ ⟨ob8, cap8, tl8, rfl, own8, rfl⟩
      rw [show y.o.flatMap encLp ++ [Value.int .i64 (fd : Int), .int .i64 (dir : Int), .int .u64 (k : Int)] = (y.o ++ [(⟨(fd : Int), (dir : Int), k⟩ : Lp)]).flatMap encLp from by rw [List.flatMap_append]; rfl, show y.o.length + 1 = (y.o ++ [(⟨(fd : Int), (dir : Int), k⟩ : Lp)]).length from by rw [List.length_append]; rfl] at *
      refine WL_val rfl rfl rfl (R_fieldAddr rfl fa44_1 rfl) ?_
      refine WL_do0 rfl rfl (D_store (vs := [_]) rfl Try.sizeOf42 rfl rfl rfl rfl rfl (by repeat (first | exact Pull.head | apply Pull.tail)) (by exact Nat.le_of_ble_eq_true rfl)) ?_
      rintro _ _ rfl
      refine WL_nil ?_
      refine WQ_code ?_
      refine WC_seq ?_
      refine WC_drawR [⟨some b3, _⟩] [(0, true), (1, true), (2, true), (3, true), (4, true), (5, false), (6, true), (7, true)] followsMixed rfl rfl (by kernel_rfl) (by repeat (first | exact Pulls.nil | exact Pulls.all | (apply Pulls.cons; (repeat (first | exact Pull.head | apply Pull.tail))) | apply Pulls.skip)) ?_
      refine WM_val rfl rfl rfl rfl (R_loadA (vs := [_, _]) rfl ag44 rfl (by repeat (first | exact List.Mem.head _ | refine List.Mem.tail _ ?_)) rfl (by repeat (first | exact At.nil | refine At.cons ?_ | refine At.succ ?_))) ?_
      refine WM_val rfl rfl rfl rfl (R_move rfl rfl) ?_
      refine WM_val rfl rfl rfl rfl (R_fieldAddr rfl fa44_0 rfl) ?_
      refine WM_val rfl rfl rfl rfl (R_load rfl sc26 rfl (by repeat (first | exact List.Mem.head _ | refine List.Mem.tail _ ?_)) rfl) ?_
      refine WM_call rfl (Spec.quiet (rpd_ok k now hnow)) rfl rfl rfl rfl rfl rfl rfl (by repeat (first | exact Pulls.nil | exact Pulls.all | (apply Pulls.cons; (repeat (first | exact Pull.head | apply Pull.tail))) | apply Pulls.skip)) ?_
      refine WM_do0 rfl rfl rfl (D_store (vs := [_, _]) rfl Try.sizeOf44 rfl rfl rfl rfl rfl (by repeat (first | exact Pull.head | apply Pull.tail)) (by exact Nat.le_of_ble_eq_true rfl)) ?_
      rintro _ _ rfl
      refine ⟨⟨_, by repeat (first | exact Pulls.nil | exact Pulls.all | (apply Pulls.cons; (repeat (first | exact Pull.head | apply Pull.tail))) | apply Pulls.skip)⟩, ?_⟩
      refine WM_val rfl rfl rfl rfl (R_assign rfl rfl) ?_
      refine WM_val rfl rfl rfl rfl (R_assign rfl rfl) ?_
      refine WM_nil ?_
      refine WQ_code ?_
      refine WC_ret ?_
      refine WQ_ret rfl rfl (.cons (.cell (vs := [_, _]) rfl ag44 (by repeat (first | exact List.Mem.head _ | refine List.Mem.tail _ ?_)) rfl (by repeat (first | exact At.nil | refine At.cons ?_ | refine At.succ ?_))) (.cons (.tmp rfl) (.cons (.tmp rfl) .nil))) rfl (by
          exact ⟨y.o ++ [⟨(fd : Int), (dir : Int), k⟩], ob8, cap8, tl8, rfl, own8, by have h9 := hr.put (i := 2 * fd + dir) (k := k) (by omega) (by omega); rw [e1, e2, ← hfin] at h9; exact h9, rfl⟩) (by repeat (first | exact Pulls.nil | exact Pulls.all | (apply Pulls.cons; (repeat (first | exact Pull.head | apply Pull.tail))) | apply Pulls.skip))
    · refine WC_skip ?_
      refine WQ_code ?_
      refine WC_seq ?_
      refine WC_drawR [⟨some b3, _⟩] [(0, true), (1, true), (2, true), (3, true), (4, true), (5, false), (6, true), (7, true)] followsMixed rfl rfl (by kernel_rfl) (by repeat (first | exact Pulls.nil | exact Pulls.all | (apply Pulls.cons; (repeat (first | exact Pull.head | apply Pull.tail))) | apply Pulls.skip)) ?_
      refine WM_val rfl rfl rfl rfl (R_loadA (vs := [_, _]) rfl ag44 rfl (by repeat (first | exact List.Mem.head _ | refine List.Mem.tail _ ?_)) rfl (by repeat (first | exact At.nil | refine At.cons ?_ | refine At.succ ?_))) ?_
      refine WM_val rfl rfl rfl rfl (R_move rfl rfl) ?_
      refine WM_val rfl rfl rfl rfl (R_fieldAddr rfl fa44_0 rfl) ?_
      refine WM_val rfl rfl rfl rfl (R_load rfl sc26 rfl (by repeat (first | exact List.Mem.head _ | refine List.Mem.tail _ ?_)) rfl) ?_
      refine WM_call rfl (Spec.quiet (rpd_ok k now hnow)) rfl rfl rfl rfl rfl rfl rfl (by repeat (first | exact Pulls.nil | exact Pulls.all | (apply Pulls.cons; (repeat (first | exact Pull.head | apply Pull.tail))) | apply Pulls.skip)) ?_
      refine WM_do0 rfl rfl rfl (D_store (vs := [_, _]) rfl Try.sizeOf44 rfl rfl rfl rfl rfl (by repeat (first | exact Pull.head | apply Pull.tail)) (by exact Nat.le_of_ble_eq_true rfl)) ?_
      rintro _ _ rfl
      refine ⟨⟨_, by repeat (first | exact Pulls.nil | exact Pulls.all | (apply Pulls.cons; (repeat (first | exact Pull.head | apply Pull.tail))) | apply Pulls.skip)⟩, ?_⟩
      refine WM_val rfl rfl rfl rfl (R_assign rfl rfl) ?_
      refine WM_val rfl rfl rfl rfl (R_assign rfl rfl) ?_
      refine WM_nil ?_
      refine WQ_code ?_
      refine WC_ret ?_
      refine WQ_ret rfl rfl (.cons (.cell (vs := [_, _]) rfl ag44 (by repeat (first | exact List.Mem.head _ | refine List.Mem.tail _ ?_)) rfl (by repeat (first | exact At.nil | refine At.cons ?_ | refine At.succ ?_))) (.cons (.tmp rfl) (.cons (.tmp rfl) .nil))) rfl (by
          have hkn : k = 18446744073709551615 := by omega
          have h9 := hr.never (i := 2 * fd + dir)
          rw [e1, e2, ← hfin, ← hkn] at h9
          exact ⟨y.o, y.ob, y.c, y.tl, rfl, hw, h9, rfl⟩) (by repeat (first | exact Pulls.nil | exact Pulls.all | (apply Pulls.cons; (repeat (first | exact Pull.head | apply Pull.tail))) | apply Pulls.skip))
theorem rget_bad (D : List Lp) (ob : Option Nat) (c : Nat) (tl : List Value) (hr : RD f D) (own : Own ob D.length c 3 (D.flatMap encLp) tl) (fd dir : Int) (h : spotE fd dir = 2) : Spec Try.prog 49 [.agg #[.int .u64 (now : Int), slV ob D.length c], .agg #[.int .i64 (fd), .int .i64 (dir)]] [⟨ob, cl (D.flatMap encLp ++ tl) 40⟩] (fun r H' => r = .tuple #[.int .u64 0, .int .i64 2] ∧ H' = [⟨ob, cl (D.flatMap encLp ++ tl) 40⟩]) := by
  refine Spec.of (E := [(0, .agg #[.int .u64 (now : Int), slV ob D.length c]), (1, .agg #[.int .i64 (fd), .int .i64 (dir)])]) Try.func49 rfl (by kernel_rfl) Try.ntmps49 rfl rfl (fun w => ?_)
  refine WC_seq ?_
  refine WC_region ?_
  refine WL_do rfl rfl rfl (D_box (cs := [_, _]) rfl rfl rfl) ?_
  rintro _ _ ⟨b1, rfl, rfl⟩
  refine WL_do rfl rfl rfl (D_box (cs := [_, _]) rfl rfl rfl) ?_
  rintro _ _ ⟨b2, rfl, rfl⟩
  refine WL_val rfl rfl rfl (R_assign rfl rfl) ?_
  refine WL_val rfl rfl rfl (R_assign rfl rfl) ?_
  refine WL_nil ?_
  refine WQ_code ?_
  refine WC_seq ?_
  refine WC_seq ?_
  refine WC_region ?_
  refine WL_val rfl rfl rfl (R_loadA (vs := [_, _]) rfl ag24 rfl (by repeat (first | exact List.Mem.head _ | refine List.Mem.tail _ ?_)) rfl (by repeat (first | exact At.nil | refine At.cons ?_ | refine At.succ ?_))) ?_
  refine WL_do rfl rfl rfl (D_call (spot_ok fd dir) rfl rfl rfl rfl (by repeat (first | exact Pulls.nil | exact Pulls.all | (apply Pulls.cons; (repeat (first | exact Pull.head | apply Pull.tail))) | apply Pulls.skip))) ?_
  rintro _ _ ⟨_, ⟨rfl, rfl⟩, rfl⟩
  refine WL_val rfl rfl rfl (R_notD rfl rfl) ?_
  refine WL_nil ?_
  refine WQ_code ?_
  refine WC_dT rfl (by rw [h]; decide) ?_
  refine WC_seq ?_
  refine WC_region ?_
  refine WL_val rfl rfl rfl (R_assign rfl rfl) ?_
  refine WL_val rfl rfl rfl (R_assign rfl rfl) ?_
  refine WL_nil ?_
  refine WQ_code ?_
  refine WC_ret ?_
  refine WQ_ret rfl rfl (.cons (.tmp rfl) (.cons (.tmp rfl) .nil)) rfl (by
      exact ⟨rfl, rfl⟩) (by repeat (first | exact Pulls.nil | exact Pulls.all | (apply Pulls.cons; (repeat (first | exact Pull.head | apply Pull.tail))) | apply Pulls.skip))
theorem rget_ok (D : List Lp) (ob : Option Nat) (c : Nat) (tl : List Value) (hr : RD f D) (own : Own ob D.length c 3 (D.flatMap encLp) tl) (fd dir : Nat) (h1 : fd < 128) (h2 : dir < 2) (hf : f (2 * fd + dir) ≤ 18446744073709551615) : Spec Try.prog 49 [.agg #[.int .u64 (now : Int), slV ob D.length c], .agg #[.int .i64 (fd : Int), .int .i64 (dir : Int)]] [⟨ob, cl (D.flatMap encLp ++ tl) 40⟩] (fun r H' => r = .tuple #[.int .u64 (f (2 * fd + dir) : Int), .int .i64 0] ∧ H' = [⟨ob, cl (D.flatMap encLp ++ tl) 40⟩]) := by
  have hlen := hr.len
  have hsp : spotE (fd : Int) (dir : Int) = 0 := by unfold spotE; split <;> omega
  refine Spec.of (E := [(0, .agg #[.int .u64 (now : Int), slV ob D.length c]), (1, .agg #[.int .i64 (fd : Int), .int .i64 (dir : Int)])]) Try.func49 rfl (by kernel_rfl) Try.ntmps49 rfl rfl (fun w => ?_)
  refine WC_seq ?_
  refine WC_region ?_
  refine WL_do rfl rfl rfl (D_box (cs := [_, _]) rfl rfl rfl) ?_
  rintro _ _ ⟨b1, rfl, rfl⟩
  refine WL_do rfl rfl rfl (D_box (cs := [_, _]) rfl rfl rfl) ?_
  rintro _ _ ⟨b2, rfl, rfl⟩
  refine WL_val rfl rfl rfl (R_assign rfl rfl) ?_
  refine WL_val rfl rfl rfl (R_assign rfl rfl) ?_
  refine WL_nil ?_
  refine WQ_code ?_
  refine WC_seq ?_
  refine WC_seq ?_
  refine WC_region ?_
  refine WL_val rfl rfl rfl (R_loadA (vs := [_, _]) rfl ag24 rfl (by repeat (first | exact List.Mem.head _ | refine List.Mem.tail _ ?_)) rfl (by repeat (first | exact At.nil | refine At.cons ?_ | refine At.succ ?_))) ?_
  refine WL_do rfl rfl rfl (D_call (spot_ok (fd : Int) (dir : Int)) rfl rfl rfl rfl (by repeat (first | exact Pulls.nil | exact Pulls.all | (apply Pulls.cons; (repeat (first | exact Pull.head | apply Pull.tail))) | apply Pulls.skip))) ?_
  rintro _ _ ⟨_, ⟨rfl, rfl⟩, rfl⟩
  refine WL_val rfl rfl rfl (R_notD rfl rfl) ?_
  refine WL_nil ?_
  refine WQ_code ?_
  refine WC_dF rfl (by rw [hsp]; decide) ?_
  refine WC_skip ?_
  refine WQ_code ?_
  refine WC_seq ?_
  refine WC_seq ?_
  refine WC_region ?_
  refine WL_val rfl rfl rfl (R_assign rfl rfl) ?_
  refine WL_nil ?_
  refine WQ_code ?_
  refine WC_block ?_
  refine WC_loopF (G := Nat) [4, 5, 6, 10, 11, 12, 13, 14, 15, 16, 17, 18, 19, 20, 21, 22, 23, 24, 25, 26, 27, 28, 29, 30] (fun j => j ≤ D.length ∧ ∀ (i : Nat) (x : Lp), i < j → D[i]? = some x → ¬ (x.fd = (fd : Int) ∧ x.dir = (dir : Int))) (fun j => [(6, .int .i64 (j : Int))]) (fun j => []) (fun j => D.length - j) (0) (⟨Nat.zero_le _, fun i x h => absurd h (Nat.not_lt_zero i)⟩) (Le.lq (by repeat (first | exact Le.nil | refine Le.cons rfl (by first | rfl | (congr 1; omega)) ?_))) (by repeat (first | exact Pulls.nil | exact Pulls.all | (apply Pulls.cons; (repeat (first | exact Pull.head | apply Pull.tail))) | apply Pulls.skip)) ?_
  rintro j ⟨hj, hno⟩
  refine WC_seq ?_
  refine WC_seq ?_
  refine WC_region ?_
  refine WL_val rfl rfl rfl (R_move rfl rfl) ?_
  refine WL_val rfl rfl rfl (R_fieldAddr rfl fa44_1 rfl) ?_
  refine WL_val rfl rfl rfl (R_load rfl sc42 rfl (by repeat (first | exact List.Mem.head _ | refine List.Mem.tail _ ?_)) rfl) ?_
  refine WL_val rfl rfl rfl (R_len rfl Try.underlying42 rfl) ?_
  refine WL_val rfl rfl rfl (R_lss rfl rfl rfl) ?_
  refine WL_nil ?_
  refine WQ_code ?_
  refine WC_dec rfl (fun c1 => ?_) (fun c1 => ?_)
  · refine WC_skip ?_
    refine WQ_code ?_
    refine WC_seq ?_
    refine WC_block ?_
    refine WC_seq ?_
    refine WC_draw _ [(0, true), (1, true), (2, true), (3, true), (4, true), (5, true), (6, true), (7, true)] followsMixed rfl rfl (by kernel_rfl) .all ?_
    obtain ⟨x, hx⟩ := exE (T := D) (i := j) (by omega)
    obtain ⟨bb, rfl⟩ := own.some_of (by omega)
    refine WM_val rfl rfl rfl rfl (R_fieldAddr rfl fa44_1 rfl) ?_
    refine WM_val rfl rfl rfl rfl (R_load rfl sc42 rfl (by repeat (first | exact List.Mem.head _ | refine List.Mem.tail _ ?_)) rfl) ?_
    refine WM_val rfl rfl rfl rfl (R_move rfl rfl) ?_
    refine WM_val rfl rfl rfl rfl (R_indexAddrN rfl Try.underlying42 Try.sizeOf40 rfl rfl (by omega)) ?_
    refine WM_val rfl rfl rfl rfl (R_fieldAddr rfl fa40_0 rfl) ?_
    refine WM_val rfl rfl rfl rfl (R_loadA (vs := [.int .i64 x.fd, .int .i64 x.dir]) rfl ag24 rfl (by repeat (first | exact List.Mem.head _ | refine List.Mem.tail _ ?_)) rfl (fm_at0 encLp3 hx (j := 0) (vs := [.int .i64 x.fd, .int .i64 x.dir]) (by repeat (first | exact At.nil | refine At.cons ?_ | refine At.succ ?_)) (by simp))) ?_
    refine WM_val rfl rfl rfl rfl (R_loadA (vs := [_, _]) rfl ag24 rfl (by repeat (first | exact List.Mem.head _ | refine List.Mem.tail _ ?_)) rfl (by repeat (first | exact At.nil | refine At.cons ?_ | refine At.succ ?_))) ?_
    refine WM_val rfl rfl rfl rfl (R_seq24 rfl rfl rfl rfl) ?_
    refine WM_nil ?_
    refine WQ_code ?_
    refine WC_dec rfl (fun c2 => ?_) (fun c2 => ?_)
    · have hat : x.at_ = f (2 * fd + dir) := by obtain ⟨i, hi, rfl, _⟩ := hr.inn x (List.mem_of_getElem? hx); unfold lpI at *; dsimp only at *; congr 1; omega
      refine WC_seq ?_
      refine WC_region ?_
      refine WL_val rfl rfl rfl (R_fieldAddr rfl fa44_1 rfl) ?_
      refine WL_val rfl rfl rfl (R_load rfl sc42 rfl (by repeat (first | exact List.Mem.head _ | refine List.Mem.tail _ ?_)) rfl) ?_
      refine WL_val rfl rfl rfl (R_move rfl rfl) ?_
      refine WL_val rfl rfl rfl (R_indexAddrN rfl Try.underlying42 Try.sizeOf40 rfl rfl (by omega)) ?_
      refine WL_val rfl rfl rfl (R_fieldAddr rfl fa40_1 rfl) ?_
      refine WL_val rfl rfl rfl (R_load (v := .int .u64 (x.at_ : Int)) rfl sc26 rfl (by repeat (first | exact List.Mem.head _ | refine List.Mem.tail _ ?_)) (fm_get0 encLp3 hx (j := 2) (by omega))) ?_
      refine WL_val rfl rfl rfl (R_assign rfl rfl) ?_
      refine WL_val rfl rfl rfl (R_assign rfl rfl) ?_
      refine WL_nil ?_
      refine WQ_code ?_
      refine WC_ret ?_
      refine WQ_ret rfl rfl (.cons (.tmp rfl) (.cons (.tmp rfl) .nil)) rfl (by
          exact ⟨by rw [hat]; rfl, rfl⟩) (by repeat (first | exact Pulls.nil | exact Pulls.all | (apply Pulls.cons; (repeat (first | exact Pull.head | apply Pull.tail))) | apply Pulls.skip))
    · refine WC_skip ?_
      refine WQ_code ?_
      refine WC_region ?_
      refine WL_val rfl rfl rfl (R_move rfl rfl) ?_
      refine WL_val rfl rfl rfl (R_add rfl rfl rfl (by omega)) ?_
      refine WL_val rfl rfl rfl (R_assign rfl rfl) ?_
      refine WL_nil ?_
      refine WQ_nextF (j + 1) (⟨by omega, fun i u hi hu => by by_cases e : i = j; (subst e; rw [hx] at hu; obtain rfl := Option.some.inj hu; assumption); (exact hno i u (by omega) hu)⟩) (by omega) (Le.lq (by repeat (first | exact Le.nil | refine Le.cons rfl (by first | rfl | (congr 1; omega)) ?_))) (by repeat (first | exact Pushed.refl | refine Pushed.push rfl ?_)) rfl (by repeat (first | exact Pulls.nil | exact Pulls.all | (apply Pulls.cons; (repeat (first | exact Pull.head | apply Pull.tail))) | apply Pulls.skip))
  · have hnv : f (2 * fd + dir) = 18446744073709551615 := by
      rcases Nat.lt_or_ge (f (2 * fd + dir)) 18446744073709551615 with h9 | h9
      · obtain ⟨i, hi⟩ := List.getElem?_of_mem (hr.all (2 * fd + dir) (by omega) h9)
        exact absurd ⟨by show (((2 * fd + dir) / 2 : Nat) : Int) = _; omega, by show (((2 * fd + dir) % 2 : Nat) : Int) = _; omega⟩ (hno i _ (by have := (List.getElem?_eq_some_iff.1 hi).1; omega) hi)
      · omega
    refine WC_exit ?_
    refine WQ_code ?_
    refine WC_seq ?_
    refine WC_region ?_
    refine WL_val rfl rfl rfl (R_assign rfl rfl) ?_
    refine WL_val rfl rfl rfl (R_assign rfl rfl) ?_
    refine WL_nil ?_
    refine WQ_code ?_
    refine WC_ret ?_
    refine WQ_ret rfl rfl (.cons (.tmp rfl) (.cons (.tmp rfl) .nil)) rfl (by
        exact ⟨by rw [hnv]; rfl, rfl⟩) (by repeat (first | exact Pulls.nil | exact Pulls.all | (apply Pulls.cons; (repeat (first | exact Pull.head | apply Pull.tail))) | apply Pulls.skip))
theorem rpass_bad (D : List Lp) (ob : Option Nat) (c : Nat) (tl : List Value) (hr : RD f D) (own : Own ob D.length c 3 (D.flatMap encLp) tl) (fd dir : Int) (h : spotE fd dir = 2) : Spec Try.prog 50 [.agg #[.int .u64 (now : Int), slV ob D.length c], .agg #[.int .i64 (fd), .int .i64 (dir)]] [⟨ob, cl (D.flatMap encLp ++ tl) 40⟩] (fun r H' => r = .tuple #[.bool false, .int .i64 2] ∧ H' = [⟨ob, cl (D.flatMap encLp ++ tl) 40⟩]) := by
  refine Spec.of (E := [(0, .agg #[.int .u64 (now : Int), slV ob D.length c]), (1, .agg #[.int .i64 (fd), .int .i64 (dir)])]) Try.func50 rfl (by kernel_rfl) Try.ntmps50 rfl rfl (fun w => ?_)
  refine WC_seq ?_
  refine WC_region ?_
  refine WL_do rfl rfl rfl (D_box (cs := [_, _]) rfl rfl rfl) ?_
  rintro _ _ ⟨b1, rfl, rfl⟩
  refine WL_do rfl rfl rfl (D_box (cs := [_, _]) rfl rfl rfl) ?_
  rintro _ _ ⟨b2, rfl, rfl⟩
  refine WL_val rfl rfl rfl (R_assign rfl rfl) ?_
  refine WL_val rfl rfl rfl (R_assign rfl rfl) ?_
  refine WL_nil ?_
  refine WQ_code ?_
  refine WC_seq ?_
  refine WC_region ?_
  refine WL_val rfl rfl rfl (R_loadA (vs := [_, _]) rfl ag44 rfl (by repeat (first | exact List.Mem.head _ | refine List.Mem.tail _ ?_)) rfl (by repeat (first | exact At.nil | refine At.cons ?_ | refine At.succ ?_))) ?_
  refine WL_val rfl rfl rfl (R_loadA (vs := [_, _]) rfl ag24 rfl (by repeat (first | exact List.Mem.head _ | refine List.Mem.tail _ ?_)) rfl (by repeat (first | exact At.nil | refine At.cons ?_ | refine At.succ ?_))) ?_
  refine WL_do rfl rfl rfl (D_call (rget_bad D ob c tl hr own fd dir h) rfl rfl rfl rfl (by repeat (first | exact Pulls.nil | exact Pulls.all | (apply Pulls.cons; (repeat (first | exact Pull.head | apply Pull.tail))) | apply Pulls.skip))) ?_
  rintro _ _ ⟨_, ⟨rfl, rfl⟩, rfl⟩
  refine WL_val rfl rfl rfl (R_move rfl rfl) ?_
  refine WL_val rfl rfl rfl (R_extract rfl rfl rfl) ?_
  refine WL_val rfl rfl rfl (R_extract rfl rfl rfl) ?_
  refine WL_val rfl rfl rfl (R_assign rfl rfl) ?_
  refine WL_val rfl rfl rfl (R_assign rfl rfl) ?_
  refine WL_nil ?_
  refine WQ_code ?_
  refine WC_seq ?_
  refine WC_region ?_
  refine WL_val rfl rfl rfl (R_move rfl rfl) ?_
  refine WL_val rfl rfl rfl (R_eql rfl rfl rfl) ?_
  refine WL_val rfl rfl rfl (R_move rfl rfl) ?_
  refine WL_set (s := 16) (v := .bool false) rfl (by simp) ?_
  refine WL_skip rfl rfl rfl ?_
  refine WL_skip rfl rfl rfl ?_
  refine WL_skip rfl rfl rfl ?_
  refine WL_skip rfl rfl rfl ?_
  refine WL_val rfl rfl rfl (R_pickF rfl rfl rfl) ?_
  refine WL_val rfl rfl rfl (R_move rfl rfl) ?_
  refine WL_val rfl rfl rfl (R_assign rfl rfl) ?_
  refine WL_val rfl rfl rfl (R_assign rfl rfl) ?_
  refine WL_nil ?_
  refine WQ_code ?_
  refine WC_ret ?_
  refine WQ_ret rfl rfl (.cons (.tmp rfl) (.cons (.tmp rfl) .nil)) rfl (by
      exact ⟨rfl, rfl⟩) (by repeat (first | exact Pulls.nil | exact Pulls.all | (apply Pulls.cons; (repeat (first | exact Pull.head | apply Pull.tail))) | apply Pulls.skip))
theorem rpass_ok (D : List Lp) (ob : Option Nat) (c : Nat) (tl : List Value) (hr : RD f D) (own : Own ob D.length c 3 (D.flatMap encLp) tl) (hnow : now < 18446744073709551615) (fd dir : Nat) (h1 : fd < 128) (h2 : dir < 2) (hf : f (2 * fd + dir) ≤ 18446744073709551615) : Spec Try.prog 50 [.agg #[.int .u64 (now : Int), slV ob D.length c], .agg #[.int .i64 (fd : Int), .int .i64 (dir : Int)]] [⟨ob, cl (D.flatMap encLp ++ tl) 40⟩] (fun r H' => r = .tuple #[.bool (decide (f (2 * fd + dir) ≤ now)), .int .i64 0] ∧ H' = [⟨ob, cl (D.flatMap encLp ++ tl) 40⟩]) := by
  refine Spec.of (E := [(0, .agg #[.int .u64 (now : Int), slV ob D.length c]), (1, .agg #[.int .i64 (fd : Int), .int .i64 (dir : Int)])]) Try.func50 rfl (by kernel_rfl) Try.ntmps50 rfl rfl (fun w => ?_)
  refine WC_seq ?_
  refine WC_region ?_
  refine WL_do rfl rfl rfl (D_box (cs := [_, _]) rfl rfl rfl) ?_
  rintro _ _ ⟨b1, rfl, rfl⟩
  refine WL_do rfl rfl rfl (D_box (cs := [_, _]) rfl rfl rfl) ?_
  rintro _ _ ⟨b2, rfl, rfl⟩
  refine WL_val rfl rfl rfl (R_assign rfl rfl) ?_
  refine WL_val rfl rfl rfl (R_assign rfl rfl) ?_
  refine WL_nil ?_
  refine WQ_code ?_
  refine WC_seq ?_
  refine WC_region ?_
  refine WL_val rfl rfl rfl (R_loadA (vs := [_, _]) rfl ag44 rfl (by repeat (first | exact List.Mem.head _ | refine List.Mem.tail _ ?_)) rfl (by repeat (first | exact At.nil | refine At.cons ?_ | refine At.succ ?_))) ?_
  refine WL_val rfl rfl rfl (R_loadA (vs := [_, _]) rfl ag24 rfl (by repeat (first | exact List.Mem.head _ | refine List.Mem.tail _ ?_)) rfl (by repeat (first | exact At.nil | refine At.cons ?_ | refine At.succ ?_))) ?_
  refine WL_do rfl rfl rfl (D_call (rget_ok D ob c tl hr own fd dir h1 h2 hf) rfl rfl rfl rfl (by repeat (first | exact Pulls.nil | exact Pulls.all | (apply Pulls.cons; (repeat (first | exact Pull.head | apply Pull.tail))) | apply Pulls.skip))) ?_
  rintro _ _ ⟨_, ⟨rfl, rfl⟩, rfl⟩
  refine WL_val rfl rfl rfl (R_move rfl rfl) ?_
  refine WL_val rfl rfl rfl (R_extract rfl rfl rfl) ?_
  refine WL_val rfl rfl rfl (R_extract rfl rfl rfl) ?_
  refine WL_val rfl rfl rfl (R_assign rfl rfl) ?_
  refine WL_val rfl rfl rfl (R_assign rfl rfl) ?_
  refine WL_nil ?_
  refine WQ_code ?_
  refine WC_seq ?_
  refine WC_region ?_
  refine WL_val rfl rfl rfl (R_move rfl rfl) ?_
  refine WL_val rfl rfl rfl (R_eql rfl rfl rfl) ?_
  refine WL_val rfl rfl rfl (R_move rfl rfl) ?_
  refine WL_set (s := 16) (v := .bool true) rfl (by simp) ?_
  refine WL_val rfl rfl rfl (R_move rfl rfl) ?_
  refine WL_val rfl rfl rfl (R_fieldAddr rfl fa44_0 rfl) ?_
  refine WL_val rfl rfl rfl (R_load rfl sc26 rfl (by repeat (first | exact List.Mem.head _ | refine List.Mem.tail _ ?_)) rfl) ?_
  refine WL_do rfl rfl rfl (D_call (rpdn_ok _ now hnow) rfl rfl rfl rfl (by repeat (first | exact Pulls.nil | exact Pulls.all | (apply Pulls.cons; (repeat (first | exact Pull.head | apply Pull.tail))) | apply Pulls.skip))) ?_
  rintro _ _ ⟨_, ⟨rfl, rfl⟩, rfl⟩
  refine WL_val rfl rfl rfl (R_pickT rfl rfl rfl) ?_
  refine WL_val rfl rfl rfl (R_move rfl rfl) ?_
  refine WL_val rfl rfl rfl (R_assign rfl rfl) ?_
  refine WL_val rfl rfl rfl (R_assign rfl rfl) ?_
  refine WL_nil ?_
  refine WQ_code ?_
  refine WC_ret ?_
  refine WQ_ret rfl rfl (.cons (.tmp rfl) (.cons (.tmp rfl) .nil)) rfl (by
      exact ⟨rfl, rfl⟩) (by repeat (first | exact Pulls.nil | exact Pulls.all | (apply Pulls.cons; (repeat (first | exact Pull.head | apply Pull.tail))) | apply Pulls.skip))
theorem rclear_bad (D : List Lp) (ob : Option Nat) (c : Nat) (tl : List Value) (hr : RD f D) (own : Own ob D.length c 3 (D.flatMap encLp) tl) (fd : Int) (h : fileE fd = 2) : Spec Try.prog 51 [.agg #[.int .u64 (now : Int), slV ob D.length c], .int .i64 fd] [⟨ob, cl (D.flatMap encLp ++ tl) 40⟩] (fun r H' => r = .tuple #[.agg #[.int .u64 (now : Int), slV ob D.length c], .int .i64 2] ∧ H' = [⟨ob, cl (D.flatMap encLp ++ tl) 40⟩]) := by
  have hsp : spotE fd 0 = 2 := by unfold fileE at h; unfold spotE; split at h <;> split <;> omega
  refine Spec.of (E := [(0, .agg #[.int .u64 (now : Int), slV ob D.length c]), (1, .int .i64 fd)]) Try.func51 rfl (by kernel_rfl) Try.ntmps51 rfl rfl (fun w => ?_)
  refine WC_seq ?_
  refine WC_region ?_
  refine WL_do rfl rfl rfl (D_box (cs := [_, _]) rfl rfl rfl) ?_
  rintro _ _ ⟨b1, rfl, rfl⟩
  refine WL_do rfl rfl rfl (D_alloc rfl zv44) ?_
  rintro _ _ ⟨b2, rfl, rfl⟩
  refine WL_val rfl rfl rfl (R_assign rfl rfl) ?_
  refine WL_nil ?_
  refine WQ_code ?_
  refine WC_seq ?_
  refine WC_region ?_
  refine WL_val rfl rfl rfl (R_loadA (vs := [_, _]) rfl ag44 rfl (by repeat (first | exact List.Mem.head _ | refine List.Mem.tail _ ?_)) rfl (by repeat (first | exact At.nil | refine At.cons ?_ | refine At.succ ?_))) ?_
  refine WL_val rfl rfl rfl (R_move rfl rfl) ?_
  refine WL_val rfl rfl rfl (R_build rfl zv24 pl24 rfl rfl) ?_
  refine WL_do rfl rfl rfl (D_call (rset_bad D ob c tl hr own fd 0 hsp 18446744073709551615) rfl rfl rfl rfl (by repeat (first | exact Pulls.nil | exact Pulls.all | (apply Pulls.cons; (repeat (first | exact Pull.head | apply Pull.tail))) | apply Pulls.skip))) ?_
  rintro _ _ ⟨_, ⟨rfl, rfl⟩, rfl⟩
  refine WL_val rfl rfl rfl (R_move rfl rfl) ?_
  refine WL_val rfl rfl rfl (R_extract rfl rfl rfl) ?_
  refine WL_val rfl rfl rfl (R_extract rfl rfl rfl) ?_
  refine WL_val rfl rfl rfl (R_extract rfl rfl rfl) ?_
  refine WL_do rfl rfl rfl (D_alloc rfl zv44) ?_
  rintro _ _ ⟨b3, rfl, rfl⟩
  refine WL_do0 rfl rfl (D_store (vs := [_, _]) rfl Try.sizeOf44 rfl rfl rfl rfl rfl (by repeat (first | exact Pull.head | apply Pull.tail)) (by exact Nat.le_of_ble_eq_true rfl)) ?_
  rintro _ _ rfl
  refine WL_val rfl rfl rfl (R_assign rfl rfl) ?_
  refine WL_val rfl rfl rfl (R_assign rfl rfl) ?_
  refine WL_nil ?_
  refine WQ_code ?_
  refine WC_seq ?_
  refine WC_seq ?_
  refine WC_region ?_
  refine WL_val rfl rfl rfl (R_move rfl rfl) ?_
  refine WL_val rfl rfl rfl (R_neq rfl rfl rfl) ?_
  refine WL_nil ?_
  refine WQ_code ?_
  refine WC_dT rfl (by simp) ?_
  refine WC_seq ?_
  refine WC_region ?_
  refine WL_val rfl rfl rfl (R_loadA (vs := [_, _]) rfl ag44 rfl (by repeat (first | exact List.Mem.head _ | refine List.Mem.tail _ ?_)) rfl (by repeat (first | exact At.nil | refine At.cons ?_ | refine At.succ ?_))) ?_
  refine WL_val rfl rfl rfl (R_move rfl rfl) ?_
  refine WL_do0 rfl rfl (D_store (vs := [_, _]) rfl Try.sizeOf44 rfl rfl rfl rfl rfl (by repeat (first | exact Pull.head | apply Pull.tail)) (by exact Nat.le_of_ble_eq_true rfl)) ?_
  rintro _ _ rfl
  refine WL_val rfl rfl rfl (R_assign rfl rfl) ?_
  refine WL_nil ?_
  refine WQ_code ?_
  refine WC_ret ?_
  refine WQ_ret rfl rfl (.cons (.cell (vs := [_, _]) rfl ag44 (by repeat (first | exact List.Mem.head _ | refine List.Mem.tail _ ?_)) rfl (by repeat (first | exact At.nil | refine At.cons ?_ | refine At.succ ?_))) (.cons (.tmp rfl) .nil)) rfl (by
      exact ⟨rfl, rfl⟩) (by repeat (first | exact Pulls.nil | exact Pulls.all | (apply Pulls.cons; (repeat (first | exact Pull.head | apply Pull.tail))) | apply Pulls.skip))
theorem rclear_ok (D : List Lp) (ob : Option Nat) (c : Nat) (tl : List Value) (hr : RD f D) (own : Own ob D.length c 3 (D.flatMap encLp) tl) (hnow : now < 18446744073709551615) (fd : Nat) (h1 : fd < 128) : Spec Try.prog 51 [.agg #[.int .u64 (now : Int), slV ob D.length c], .int .i64 (fd : Int)] [⟨ob, cl (D.flatMap encLp ++ tl) 40⟩]
    (fun r H' => ∃ (D' : List Lp) (ob' : Option Nat) (c' : Nat) (tl' : List Value), r = .tuple #[.agg #[.int .u64 (now : Int), slV ob' D'.length c'], .int .i64 0] ∧ Own ob' D'.length c' 3 (D'.flatMap encLp) tl' ∧ RD (clrF f fd 2) D' ∧ H' = [⟨ob', cl (D'.flatMap encLp ++ tl') 40⟩, ⟨ob, cl (D.flatMap encLp ++ tl) 40⟩]) := by
  refine Spec.of (E := [(0, .agg #[.int .u64 (now : Int), slV ob D.length c]), (1, .int .i64 (fd : Int))]) Try.func51 rfl (by kernel_rfl) Try.ntmps51 rfl rfl (fun w => ?_)
  refine WC_seq ?_
  refine WC_region ?_
  refine WL_do rfl rfl rfl (D_box (cs := [_, _]) rfl rfl rfl) ?_
  rintro _ _ ⟨b1, rfl, rfl⟩
  refine WL_do rfl rfl rfl (D_alloc rfl zv44) ?_
  rintro _ _ ⟨b2, rfl, rfl⟩
  refine WL_val rfl rfl rfl (R_assign rfl rfl) ?_
  refine WL_nil ?_
  refine WQ_code ?_
  refine WC_seq ?_
  refine WC_region ?_
  refine WL_val rfl rfl rfl (R_loadA (vs := [_, _]) rfl ag44 rfl (by repeat (first | exact List.Mem.head _ | refine List.Mem.tail _ ?_)) rfl (by repeat (first | exact At.nil | refine At.cons ?_ | refine At.succ ?_))) ?_
  refine WL_val rfl rfl rfl (R_move rfl rfl) ?_
  refine WL_val rfl rfl rfl (R_build rfl zv24 pl24 rfl rfl) ?_
  refine WL_do rfl rfl rfl (D_call (rset_ok D ob c tl hr own hnow fd 0 h1 (by omega) 18446744073709551615 (Nat.le_refl _)) rfl rfl rfl rfl (by repeat (first | exact Pulls.nil | exact Pulls.all | (apply Pulls.cons; (repeat (first | exact Pull.head | apply Pull.tail))) | apply Pulls.skip))) ?_
  rintro _ _ ⟨_, ⟨D1, o1, c1, t1, rfl, w1, r1, rfl⟩, rfl⟩
  refine WL_val rfl rfl rfl (R_move rfl rfl) ?_
  refine WL_val rfl rfl rfl (R_extract rfl rfl rfl) ?_
  refine WL_val rfl rfl rfl (R_extract rfl rfl rfl) ?_
  refine WL_val rfl rfl rfl (R_extract rfl rfl rfl) ?_
  refine WL_do rfl rfl rfl (D_alloc rfl zv44) ?_
  rintro _ _ ⟨b3, rfl, rfl⟩
  refine WL_do0 rfl rfl (D_store (vs := [_, _]) rfl Try.sizeOf44 rfl rfl rfl rfl rfl (by repeat (first | exact Pull.head | apply Pull.tail)) (by exact Nat.le_of_ble_eq_true rfl)) ?_
  rintro _ _ rfl
  refine WL_val rfl rfl rfl (R_assign rfl rfl) ?_
  refine WL_val rfl rfl rfl (R_assign rfl rfl) ?_
  refine WL_nil ?_
  refine WQ_code ?_
  refine WC_seq ?_
  refine WC_seq ?_
  refine WC_region ?_
  refine WL_val rfl rfl rfl (R_move rfl rfl) ?_
  refine WL_val rfl rfl rfl (R_neq rfl rfl rfl) ?_
  refine WL_nil ?_
  refine WQ_code ?_
  refine WC_dF rfl (by simp) ?_
  refine WC_skip ?_
  refine WQ_code ?_
  refine WC_seq ?_
  refine WC_region ?_
  refine WL_val rfl rfl rfl (R_loadA (vs := [_, _]) rfl ag44 rfl (by repeat (first | exact List.Mem.head _ | refine List.Mem.tail _ ?_)) rfl (by repeat (first | exact At.nil | refine At.cons ?_ | refine At.succ ?_))) ?_
  refine WL_val rfl rfl rfl (R_move rfl rfl) ?_
  refine WL_val rfl rfl rfl (R_build rfl zv24 pl24 rfl rfl) ?_
  refine WL_do rfl rfl rfl (D_call (rset_ok D1 o1 c1 t1 r1 w1 hnow fd 1 h1 (by omega) 18446744073709551615 (Nat.le_refl _)) rfl rfl rfl rfl (by repeat (first | exact Pulls.nil | exact Pulls.all | (apply Pulls.cons; (repeat (first | exact Pull.head | apply Pull.tail))) | apply Pulls.skip))) ?_
  rintro _ _ ⟨_, ⟨D2, o2, c2, t2, rfl, w2, r2, rfl⟩, rfl⟩
  refine WL_val rfl rfl rfl (R_move rfl rfl) ?_
  refine WL_val rfl rfl rfl (R_extract rfl rfl rfl) ?_
  refine WL_val rfl rfl rfl (R_extract rfl rfl rfl) ?_
  refine WL_val rfl rfl rfl (R_extract rfl rfl rfl) ?_
  refine WL_do0 rfl rfl (D_store (vs := [_, _]) rfl Try.sizeOf44 rfl rfl rfl rfl rfl (by repeat (first | exact Pull.head | apply Pull.tail)) (by exact Nat.le_of_ble_eq_true rfl)) ?_
  rintro _ _ rfl
  refine WL_nil ?_
  refine WQ_code ?_
  refine WC_seq ?_
  refine WC_region ?_
  refine WL_val rfl rfl rfl (R_loadA (vs := [_, _]) rfl ag44 rfl (by repeat (first | exact List.Mem.head _ | refine List.Mem.tail _ ?_)) rfl (by repeat (first | exact At.nil | refine At.cons ?_ | refine At.succ ?_))) ?_
  refine WL_do0 rfl rfl (D_store (vs := [_, _]) rfl Try.sizeOf44 rfl rfl rfl rfl rfl (by repeat (first | exact Pull.head | apply Pull.tail)) (by exact Nat.le_of_ble_eq_true rfl)) ?_
  rintro _ _ rfl
  refine WL_val rfl rfl rfl (R_assign rfl rfl) ?_
  refine WL_nil ?_
  refine WQ_code ?_
  refine WC_ret ?_
  refine WQ_ret rfl rfl (.cons (.cell (vs := [_, _]) rfl ag44 (by repeat (first | exact List.Mem.head _ | refine List.Mem.tail _ ?_)) rfl (by repeat (first | exact At.nil | refine At.cons ?_ | refine At.succ ?_))) (.cons (.tmp rfl) .nil)) rfl (by
      exact ⟨D2, o2, c2, t2, rfl, w2, r2, rfl⟩) (by repeat (first | exact Pulls.nil | exact Pulls.all | (apply Pulls.cons; (repeat (first | exact Pull.head | apply Pull.tail))) | apply Pulls.skip))
theorem rnext_ok (D : List Lp) (ob : Option Nat) (c : Nat) (tl : List Value) (hr : RD f D) (own : Own ob D.length c 3 (D.flatMap encLp) tl) (hnow : now < 18446744073709551615) : Spec Try.prog 48 [.agg #[.int .u64 (now : Int), slV ob D.length c]] [⟨ob, cl (D.flatMap encLp ++ tl) 40⟩] (fun r H' => r = .int .u64 (minL (awake D now) : Int) ∧ H' = [⟨ob, cl (D.flatMap encLp ++ tl) 40⟩]) := by
  have hlen := hr.len
  refine Spec.of (E := [(0, .agg #[.int .u64 (now : Int), slV ob D.length c])]) Try.func48 rfl (by kernel_rfl) Try.ntmps48 rfl rfl (fun w => ?_)
  refine WC_seq ?_
  refine WC_region ?_
  refine WL_do rfl rfl rfl (D_box (cs := [_, _]) rfl rfl rfl) ?_
  rintro _ _ ⟨b1, rfl, rfl⟩
  refine WL_val rfl rfl rfl (R_assign rfl rfl) ?_
  refine WL_nil ?_
  refine WQ_code ?_
  refine WC_seq ?_
  refine WC_region ?_
  refine WL_val rfl rfl rfl (R_assign rfl rfl) ?_
  refine WL_nil ?_
  refine WQ_code ?_
  refine WC_seq ?_
  refine WC_seq ?_
  refine WC_region ?_
  refine WL_val rfl rfl rfl (R_assign rfl rfl) ?_
  refine WL_nil ?_
  refine WQ_code ?_
  refine WC_block ?_
  refine WC_none 26 ?_
  refine WC_loopF (G := RnW) [3, 4, 5, 6, 7, 8, 9, 10, 11, 12, 13, 14, 15, 16, 17, 18, 19, 20, 21, 22, 23, 24, 25, 26, 27, 28, 29, 30] (fun y => y.j ≤ D.length ∧ y.o = awake (D.take y.j) now ∧ Own y.ob y.o.length y.c 1 (y.o.flatMap encT) y.tl) (fun y => [(4, .int .i64 (y.j : Int)), (3, slV y.ob y.o.length y.c)]) (fun y => [⟨y.ob, cl (y.o.flatMap encT ++ y.tl) 26⟩]) (fun y => D.length - y.j) (⟨0, [], none, 0, []⟩) (⟨Nat.zero_le _, rfl, Own.empty 1⟩) (Le.lq (by repeat (first | exact Le.nil | refine Le.cons rfl (by first | rfl | (congr 1; omega)) ?_))) (by repeat (first | exact Pulls.nil | exact Pulls.all | (apply Pulls.cons; (repeat (first | exact Pull.head | apply Pull.tail))) | apply Pulls.skip)) ?_
  rintro y ⟨hj, ho, hw⟩
  have hol : y.o.length ≤ 256 := by rw [ho, awake, List.length_map]; exact Nat.le_trans (List.length_filter_le _ _) (by rw [List.length_take]; omega)
  refine WC_seq ?_
  refine WC_seq ?_
  refine WC_region ?_
  refine WL_val rfl rfl rfl (R_move rfl rfl) ?_
  refine WL_val rfl rfl rfl (R_fieldAddr rfl fa44_1 rfl) ?_
  refine WL_val rfl rfl rfl (R_load rfl sc42 rfl (by repeat (first | exact List.Mem.head _ | refine List.Mem.tail _ ?_)) rfl) ?_
  refine WL_val rfl rfl rfl (R_len rfl Try.underlying42 rfl) ?_
  refine WL_val rfl rfl rfl (R_lss rfl rfl rfl) ?_
  refine WL_nil ?_
  refine WQ_code ?_
  refine WC_dec rfl (fun c1 => ?_) (fun c1 => ?_)
  · refine WC_skip ?_
    refine WQ_code ?_
    refine WC_seq ?_
    refine WC_block ?_
    refine WC_seq ?_
    refine WC_draw _ [(0, true), (1, true), (2, true), (3, true), (4, true), (5, true), (6, true), (7, true), (8, true), (9, true)] followsMixed rfl rfl (by kernel_rfl) .all ?_
    obtain ⟨x, hx⟩ := exE (T := D) (i := y.j) (by omega)
    obtain ⟨bb, rfl⟩ := own.some_of (by omega)
    refine WM_val rfl rfl rfl rfl (R_fieldAddr rfl fa44_1 rfl) ?_
    refine WM_val rfl rfl rfl rfl (R_load rfl sc42 rfl (by repeat (first | exact List.Mem.head _ | refine List.Mem.tail _ ?_)) rfl) ?_
    refine WM_val rfl rfl rfl rfl (R_move rfl rfl) ?_
    refine WM_val rfl rfl rfl rfl (R_indexAddrN rfl Try.underlying42 Try.sizeOf40 rfl rfl (by omega)) ?_
    refine WM_val rfl rfl rfl rfl (R_fieldAddr rfl fa40_1 rfl) ?_
    refine WM_val rfl rfl rfl rfl (R_load (v := .int .u64 (x.at_ : Int)) rfl sc26 rfl (by repeat (first | exact List.Mem.head _ | refine List.Mem.tail _ ?_)) (fm_get0 encLp3 hx (j := 2) (by omega))) ?_
    refine WM_val rfl rfl rfl rfl (R_fieldAddr rfl fa44_0 rfl) ?_
    refine WM_val rfl rfl rfl rfl (R_load rfl sc26 rfl (by repeat (first | exact List.Mem.head _ | refine List.Mem.tail _ ?_)) rfl) ?_
    refine WM_call rfl (Spec.quiet (rpdn_ok _ now hnow)) rfl rfl rfl rfl rfl rfl rfl (by repeat (first | exact Pulls.nil | exact Pulls.all | (apply Pulls.cons; (repeat (first | exact Pull.head | apply Pull.tail))) | apply Pulls.skip)) ?_
    refine WM_val rfl rfl rfl rfl (R_notD rfl rfl) ?_
    refine WM_nil ?_
    refine WQ_code ?_
    refine WC_dec rfl (fun c2 => ?_) (fun c2 => ?_)
    · refine WC_region ?_
      refine WL_val rfl rfl rfl (R_move rfl rfl) ?_
      refine WL_val rfl rfl rfl (R_fieldAddr rfl fa44_1 rfl) ?_
      refine WL_val rfl rfl rfl (R_load rfl sc42 rfl (by repeat (first | exact List.Mem.head _ | refine List.Mem.tail _ ?_)) rfl) ?_
      refine WL_val rfl rfl rfl (R_move rfl rfl) ?_
      refine WL_val rfl rfl rfl (R_indexAddrN rfl Try.underlying42 Try.sizeOf40 rfl rfl (by omega)) ?_
      refine WL_val rfl rfl rfl (R_fieldAddr rfl fa40_1 rfl) ?_
      refine WL_val rfl rfl rfl (R_load (v := .int .u64 (x.at_ : Int)) rfl sc26 rfl (by repeat (first | exact List.Mem.head _ | refine List.Mem.tail _ ?_)) (fm_get0 encLp3 hx (j := 2) (by omega))) ?_
      refine WL_do rfl rfl rfl (D_buildSlice rfl si27 rfl rfl rfl) ?_
      rintro _ _ ⟨b2, rfl, rfl⟩
      refine WL_do rfl rfl rfl (D_append rfl si27 rfl (hw) (by repeat (first | exact Pull.head | apply Pull.tail)) rfl (by repeat (first | exact List.Mem.head _ | refine List.Mem.tail _ ?_)) ((by repeat (first | exact At.nil | refine At.cons ?_ | refine At.succ ?_) : At _ 0 [_])) (rfl) (rfl) (by omega) (by omega)) ?_
      rintro _ _ ⟨ob3, cap3, tl3, rfl, own3, rfl⟩
      rw [show y.o.flatMap encT ++ [Value.int .u64 (x.at_ : Int)] = (y.o ++ [x.at_]).flatMap encT from by rw [List.flatMap_append]; rfl, show y.o.length + 1 = (y.o ++ [x.at_]).length from by rw [List.length_append]; rfl] at *
      refine WL_val rfl rfl rfl (R_assign rfl rfl) ?_
      refine WL_nil ?_
      refine WQ_code ?_
      refine WC_region ?_
      refine WL_val rfl rfl rfl (R_move rfl rfl) ?_
      refine WL_val rfl rfl rfl (R_add rfl rfl rfl (by omega)) ?_
      refine WL_val rfl rfl rfl (R_assign rfl rfl) ?_
      refine WL_nil ?_
      refine WQ_nextF (⟨y.j + 1, y.o ++ [x.at_], ob3, cap3, tl3⟩) (⟨by dsimp only; omega, by dsimp only; rw [tk_next hx, awake_snoc, if_pos (by omega), ho], own3⟩) (by dsimp only; omega) (Le.lq (by repeat (first | exact Le.nil | refine Le.cons rfl (by first | rfl | (congr 1; omega)) ?_))) (by repeat (first | exact Pushed.refl | refine Pushed.push rfl ?_)) rfl (by repeat (first | exact Pulls.nil | exact Pulls.all | (apply Pulls.cons; (repeat (first | exact Pull.head | apply Pull.tail))) | apply Pulls.skip))
    · refine WC_skip ?_
      refine WQ_code ?_
      refine WC_region ?_
      refine WL_val rfl rfl rfl (R_move rfl rfl) ?_
      refine WL_val rfl rfl rfl (R_add rfl rfl rfl (by omega)) ?_
      refine WL_val rfl rfl rfl (R_assign rfl rfl) ?_
      refine WL_nil ?_
      refine WQ_nextF (⟨y.j + 1, y.o, y.ob, y.c, y.tl⟩) (⟨by dsimp only; omega, by dsimp only; rw [tk_next hx, awake_snoc, if_neg (by omega), List.append_nil, ho], hw⟩) (by dsimp only; omega) (Le.lq (by repeat (first | exact Le.nil | refine Le.cons rfl (by first | rfl | (congr 1; omega)) ?_))) (by repeat (first | exact Pushed.refl | refine Pushed.push rfl ?_)) rfl (by repeat (first | exact Pulls.nil | exact Pulls.all | (apply Pulls.cons; (repeat (first | exact Pull.head | apply Pull.tail))) | apply Pulls.skip))
  · have hfin : y.o = awake D now := by rw [ho, List.take_of_length_le (by omega)]
    refine WC_exit ?_
    refine WQ_code ?_
    refine WC_seq ?_
    refine WC_region ?_
    refine WL_val rfl rfl rfl (R_move rfl rfl) ?_
    refine WL_do rfl rfl rfl (D_call (rmin_ok y.o (by omega) y.ob y.c y.tl hw) rfl rfl rfl rfl (by repeat (first | exact Pulls.nil | exact Pulls.all | (apply Pulls.cons; (repeat (first | exact Pull.head | apply Pull.tail))) | apply Pulls.skip))) ?_
    rintro _ _ ⟨_, ⟨rfl, rfl⟩, rfl⟩
    refine WL_val rfl rfl rfl (R_assign rfl rfl) ?_
    refine WL_nil ?_
    refine WQ_code ?_
    refine WC_ret ?_
    refine WQ_ret rfl rfl (.cons (.tmp rfl) .nil) rfl (by
        exact ⟨by rw [← hfin]; rfl, rfl⟩) (by repeat (first | exact Pulls.nil | exact Pulls.all | (apply Pulls.cons; (repeat (first | exact Pull.head | apply Pull.tail))) | apply Pulls.skip))
end

end Go.Proofs.Ytnkpefonocggfaa
