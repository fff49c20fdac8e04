/-
  Chapter 10 (deadline), part RefC: contracts of functions that the laws call, each for the heap it names.
-/
import Derived.Test.YtnkpefonocggfaaRows
import Derived.Test.YtnkpefonocggfaaSLPhase
import Derived.Test.YtnkpefonocggfaaSLInt
import Derived.Test.YtnkpefonocggfaaTab
import Derived.Test.YtnkpefonocggfaaRefB
import Derived.Test.YtnkpefonocggfaaSLOpt
set_option linter.unusedVariables false
set_option maxRecDepth 20000
set_option maxHeartbeats 2000000
namespace Go.Proofs.Ytnkpefonocggfaa


theorem fm_take3 (T : List Lp) (i : Nat) (h : i ≤ T.length) : (T.flatMap encLp).take (i * 3) = (T.take i).flatMap encLp := by
  conv => lhs; rw [← List.take_append_drop i T, List.flatMap_append]
  rw [List.take_left' (by rw [fm_length encLp3, List.length_take]; omega)]
theorem fm_drop3 (T : List Lp) (i : Nat) (h : i ≤ T.length) : (T.flatMap encLp).drop (i * 3) = (T.drop i).flatMap encLp := by
  conv => lhs; rw [← List.take_append_drop i T, List.flatMap_append]
  rw [List.drop_left' (by rw [fm_length encLp3, List.length_take]; omega)]
theorem shift_cells (T : List Lp) (z : Lp) (i c : Nat) (hi : i ≤ T.length) (hc : T.length + 1 ≤ c) (tl : List Value) :
    ((T ++ [z]).flatMap encLp ++ tl).take (if c = i + 1 then 0 else 0 + (i + 1) * 3) ++ (T.drop i).flatMap encLp ++ ((T ++ [z]).flatMap encLp ++ tl).drop ((if c = i + 1 then 0 else 0 + (i + 1) * 3) + ((T.drop i).flatMap encLp).length)
      = ((T ++ [z]).take (i + 1) ++ T.drop i).flatMap encLp ++ tl := by
  by_cases e : c = i + 1
  · have e2 : T.drop i = [] := List.drop_eq_nil_of_le (by omega)
    rw [if_pos e, e2, List.take_of_length_le (l := T ++ [z]) (by rw [List.length_append, List.length_singleton]; omega), List.take_zero, List.flatMap_nil, List.length_nil, List.drop_zero, List.append_nil, List.nil_append, List.append_nil]
  · have e3 : (T ++ [z]).length = T.length + 1 := by rw [List.length_append, List.length_singleton]
    rw [if_neg e, Nat.zero_add, List.take_append_of_le_length (by rw [fm_length encLp3, e3]; omega), fm_take3 _ _ (by omega), List.drop_left' (by rw [fm_length encLp3, fm_length encLp3, e3, List.length_drop]; omega), List.flatMap_append]
theorem copy_at (T : List Lp) (z : Lp) (i c : Nat) (hi : i ≤ T.length) (hc : T.length + 1 ≤ c) (tl : List Value) : At ((T ++ [z]).flatMap encLp ++ tl) (if c = i then 0 else 0 + i * 3) ((T.drop i).flatMap encLp) := by
  rw [if_neg (by omega), Nat.zero_add]
  intro m v hm
  have e : (T ++ [z]).flatMap encLp ++ tl = (T.take i).flatMap encLp ++ ((T.drop i).flatMap encLp ++ ([z].flatMap encLp ++ tl)) := by
    conv => lhs; rw [← List.take_append_drop i T, List.flatMap_append, List.flatMap_append]
    simp only [List.append_assoc]
  rw [e, show i * 3 + m = ((T.take i).flatMap encLp).length + m from by rw [fm_length encLp3, List.length_take, Nat.min_eq_left hi], List.getElem?_append_right (Nat.le_add_right _ _), Nat.add_sub_cancel_left, List.getElem?_append_left (List.getElem?_eq_some_iff.1 hm).1]
  exact hm
theorem shift_set (T : List Lp) (z x : Lp) (i : Nat) (hi : i ≤ T.length) : (∃ u, ((T ++ [z]).take (i + 1) ++ T.drop i)[i]? = some u) ∧ ((T ++ [z]).take (i + 1) ++ T.drop i).set i x = T.take i ++ x :: T.drop i := by
  obtain ⟨u, hu⟩ : ∃ u, (T ++ [z])[i]? = some u := ⟨_, List.getElem?_eq_getElem (by rw [List.length_append, List.length_singleton]; omega)⟩
  have hl : (T.take i).length = i := by rw [List.length_take]; omega
  rw [tk_next hu, List.take_append_of_le_length hi, List.append_assoc]
  refine ⟨⟨u, ?_⟩, ?_⟩
  · rw [List.getElem?_append_right (by omega), hl, Nat.sub_self]; rfl
  · rw [List.set_append_right _ _ (by omega), hl, Nat.sub_self]; rfl
section
variable {f : Nat → Nat} {now : Nat}
theorem radv_never (D : List Lp) (ob : Option Nat) (c : Nat) (tl : List Value) (hr : RD f D) (own : Own ob D.length c 3 (D.flatMap encLp) tl) : Spec Try.prog 20 [.agg #[.int .u64 (now : Int), slV ob D.length c], .int .u64 18446744073709551615] [⟨ob, cl (D.flatMap encLp ++ tl) 40⟩] (fun r H' => r = .tuple #[.agg #[.int .u64 (now : Int), slV ob D.length c], .slice none 0 0, .int .i64 2] ∧ H' = [⟨ob, cl (D.flatMap encLp ++ tl) 40⟩]) := by
  refine Spec.of (E := [(0, .agg #[.int .u64 (now : Int), slV ob D.length c]), (1, .int .u64 18446744073709551615)]) Try.func20 rfl (by kernel_rfl) Try.ntmps20 rfl rfl (fun w => ?_)
  refine WC_seq ?_
  refine WC_region ?_
  refine WL_do rfl rfl rfl (D_box (cs := [_, _]) rfl rfl rfl) ?_
  rintro _ _ ⟨b1, rfl, rfl⟩
  refine WL_do rfl rfl rfl (D_alloc rfl zv44) ?_
  rintro _ _ ⟨b2, rfl, rfl⟩
  refine WL_val rfl rfl rfl (R_assign rfl rfl) ?_
  refine WL_val rfl rfl rfl (R_assign rfl rfl) ?_
  refine WL_nil ?_
  refine WQ_code ?_
  refine WC_seq ?_
  refine WC_seq ?_
  refine WC_region ?_
  refine WL_val rfl rfl rfl (R_move rfl rfl) ?_
  refine WL_val rfl rfl rfl (R_eql rfl rfl rfl) ?_
  refine WL_nil ?_
  refine WQ_code ?_
  refine WC_dT rfl (by rfl) ?_
  refine WC_seq ?_
  refine WC_region ?_
  refine WL_val rfl rfl rfl (R_loadA (vs := [_, _]) rfl ag44 rfl (by repeat (first | exact List.Mem.head _ | refine List.Mem.tail _ ?_)) rfl (by repeat (first | exact At.nil | refine At.cons ?_ | refine At.succ ?_))) ?_
  refine WL_do0 rfl rfl (D_store (vs := [_, _]) rfl Try.sizeOf44 rfl rfl rfl rfl rfl (by repeat (first | exact Pull.head | apply Pull.tail)) (by exact Nat.le_of_ble_eq_true rfl)) ?_
  rintro _ _ rfl
  refine WL_val rfl rfl rfl (R_assign rfl rfl) ?_
  refine WL_val rfl rfl rfl (R_assign rfl rfl) ?_
  refine WL_nil ?_
  refine WQ_code ?_
  refine WC_ret ?_
  refine WQ_ret rfl rfl (.cons (.cell (vs := [_, _]) rfl ag44 (by repeat (first | exact List.Mem.head _ | refine List.Mem.tail _ ?_)) rfl (by repeat (first | exact At.nil | refine At.cons ?_ | refine At.succ ?_))) (.cons (.tmp rfl) (.cons (.tmp rfl) .nil))) rfl (by
      exact ⟨rfl, rfl⟩) (by repeat (first | exact Pulls.nil | exact Pulls.all | (apply Pulls.cons; (repeat (first | exact Pull.head | apply Pull.tail))) | apply Pulls.skip))
theorem radv_past (D : List Lp) (ob : Option Nat) (c : Nat) (tl : List Value) (hr : RD f D) (own : Own ob D.length c 3 (D.flatMap encLp) tl) (hnow : now < 18446744073709551615) (to : Nat) (h : to < now) : Spec Try.prog 20 [.agg #[.int .u64 (now : Int), slV ob D.length c], .int .u64 (to : Int)] [⟨ob, cl (D.flatMap encLp ++ tl) 40⟩] (fun r H' => r = .tuple #[.agg #[.int .u64 (now : Int), slV ob D.length c], .slice none 0 0, .int .i64 3] ∧ H' = [⟨ob, cl (D.flatMap encLp ++ tl) 40⟩]) := by
  refine Spec.of (E := [(0, .agg #[.int .u64 (now : Int), slV ob D.length c]), (1, .int .u64 (to : Int))]) Try.func20 rfl (by kernel_rfl) Try.ntmps20 rfl rfl (fun w => ?_)
  refine WC_seq ?_
  refine WC_region ?_
  refine WL_do rfl rfl rfl (D_box (cs := [_, _]) rfl rfl rfl) ?_
  rintro _ _ ⟨b1, rfl, rfl⟩
  refine WL_do rfl rfl rfl (D_alloc rfl zv44) ?_
  rintro _ _ ⟨b2, rfl, rfl⟩
  refine WL_val rfl rfl rfl (R_assign rfl rfl) ?_
  refine WL_val rfl rfl rfl (R_assign rfl rfl) ?_
  refine WL_nil ?_
  refine WQ_code ?_
  refine WC_seq ?_
  refine WC_seq ?_
  refine WC_region ?_
  refine WL_val rfl rfl rfl (R_move rfl rfl) ?_
  refine WL_val rfl rfl rfl (R_eql rfl rfl rfl) ?_
  refine WL_nil ?_
  refine WQ_code ?_
  refine WC_dF rfl (by omega) ?_
  refine WC_skip ?_
  refine WQ_code ?_
  refine WC_seq ?_
  refine WC_seq ?_
  refine WC_region ?_
  refine WL_val rfl rfl rfl (R_move rfl rfl) ?_
  refine WL_val rfl rfl rfl (R_fieldAddr rfl fa44_0 rfl) ?_
  refine WL_val rfl rfl rfl (R_load rfl sc26 rfl (by repeat (first | exact List.Mem.head _ | refine List.Mem.tail _ ?_)) rfl) ?_
  refine WL_val rfl rfl rfl (R_lss rfl rfl rfl) ?_
  refine WL_nil ?_
  refine WQ_code ?_
  refine WC_dT rfl (by omega) ?_
  refine WC_seq ?_
  refine WC_region ?_
  refine WL_val rfl rfl rfl (R_loadA (vs := [_, _]) rfl ag44 rfl (by repeat (first | exact List.Mem.head _ | refine List.Mem.tail _ ?_)) rfl (by repeat (first | exact At.nil | refine At.cons ?_ | refine At.succ ?_))) ?_
  refine WL_do0 rfl rfl (D_store (vs := [_, _]) rfl Try.sizeOf44 rfl rfl rfl rfl rfl (by repeat (first | exact Pull.head | apply Pull.tail)) (by exact Nat.le_of_ble_eq_true rfl)) ?_
  rintro _ _ rfl
  refine WL_val rfl rfl rfl (R_assign rfl rfl) ?_
  refine WL_val rfl rfl rfl (R_assign rfl rfl) ?_
  refine WL_nil ?_
  refine WQ_code ?_
  refine WC_ret ?_
  refine WQ_ret rfl rfl (.cons (.cell (vs := [_, _]) rfl ag44 (by repeat (first | exact List.Mem.head _ | refine List.Mem.tail _ ?_)) rfl (by repeat (first | exact At.nil | refine At.cons ?_ | refine At.succ ?_))) (.cons (.tmp rfl) (.cons (.tmp rfl) .nil))) rfl (by
      exact ⟨rfl, rfl⟩) (by repeat (first | exact Pulls.nil | exact Pulls.all | (apply Pulls.cons; (repeat (first | exact Pull.head | apply Pull.tail))) | apply Pulls.skip))
theorem radv_ok (D : List Lp) (ob : Option Nat) (c : Nat) (tl : List Value) (hr : RD f D) (own : Own ob D.length c 3 (D.flatMap encLp) tl) (to : Nat) (h1 : now ≤ to) (h2 : to < 18446744073709551615) : Spec Try.prog 20 [.agg #[.int .u64 (now : Int), slV ob D.length c], .int .u64 (to : Int)] [⟨ob, cl (D.flatMap encLp ++ tl) 40⟩]
    (fun r H' => ∃ (l : List Lp) (o2 : Option Nat) (c2 : Nat) (t2 : List Value), r = .tuple #[.agg #[.int .u64 (to : Int), slV ob D.length c], slV o2 l.length c2, .int .i64 0] ∧ Own o2 l.length c2 3 (l.flatMap encLp) t2 ∧ IsLap f now to l ∧ H' = [⟨o2, cl (l.flatMap encLp ++ t2) 40⟩, ⟨ob, cl (D.flatMap encLp ++ tl) 40⟩]) := by
  have hlen := hr.len
  refine Spec.of (E := [(0, .agg #[.int .u64 (now : Int), slV ob D.length c]), (1, .int .u64 (to : Int))]) Try.func20 rfl (by kernel_rfl) Try.ntmps20 rfl rfl (fun w => ?_)
  refine WC_seq ?_
  refine WC_region ?_
  refine WL_do rfl rfl rfl (D_box (cs := [_, _]) rfl rfl rfl) ?_
  rintro _ _ ⟨b1, rfl, rfl⟩
  refine WL_do rfl rfl rfl (D_alloc rfl zv44) ?_
  rintro _ _ ⟨b2, rfl, rfl⟩
  refine WL_val rfl rfl rfl (R_assign rfl rfl) ?_
  refine WL_val rfl rfl rfl (R_assign rfl rfl) ?_
  refine WL_nil ?_
  refine WQ_code ?_
  refine WC_seq ?_
  refine WC_seq ?_
  refine WC_region ?_
  refine WL_val rfl rfl rfl (R_move rfl rfl) ?_
  refine WL_val rfl rfl rfl (R_eql rfl rfl rfl) ?_
  refine WL_nil ?_
  refine WQ_code ?_
  refine WC_dF rfl (by omega) ?_
  refine WC_skip ?_
  refine WQ_code ?_
  refine WC_seq ?_
  refine WC_seq ?_
  refine WC_region ?_
  refine WL_val rfl rfl rfl (R_move rfl rfl) ?_
  refine WL_val rfl rfl rfl (R_fieldAddr rfl fa44_0 rfl) ?_
  refine WL_val rfl rfl rfl (R_load rfl sc26 rfl (by repeat (first | exact List.Mem.head _ | refine List.Mem.tail _ ?_)) rfl) ?_
  refine WL_val rfl rfl rfl (R_lss rfl rfl rfl) ?_
  refine WL_nil ?_
  refine WQ_code ?_
  refine WC_dF rfl (by omega) ?_
  refine WC_skip ?_
  refine WQ_code ?_
  refine WC_seq ?_
  refine WC_region ?_
  refine WL_val rfl rfl rfl (R_assign rfl rfl) ?_
  refine WL_nil ?_
  refine WQ_code ?_
  refine WC_seq ?_
  refine WC_seq ?_
  refine WC_region ?_
  refine WL_val rfl rfl rfl (R_assign rfl rfl) ?_
  refine WL_nil ?_
  refine WQ_code ?_
  refine WC_block ?_
  refine WC_none 40 ?_
  refine WC_loopF (G := RsW) [7, 8, 9, 18, 19, 20, 21, 22, 23, 24, 25, 26, 27, 28, 29, 30, 31, 32, 33, 34, 35, 36, 37, 38, 39, 40, 41, 42, 43, 44, 45, 46, 47, 48, 49, 50, 51, 52, 53, 54, 55, 56, 57, 58, 59, 60, 61, 62, 63, 64, 65, 66, 67, 68, 69, 70, 71, 72, 73, 74, 75, 76, 77, 78, 79, 80, 81, 82] (fun y => y.j ≤ D.length ∧ RLap D now to y.j y.o ∧ Own y.ob y.o.length y.c 3 (y.o.flatMap encLp) y.tl) (fun y => [(8, .int .i64 (y.j : Int)), (7, slV y.ob y.o.length y.c)]) (fun y => [⟨y.ob, cl (y.o.flatMap encLp ++ y.tl) 40⟩]) (fun y => D.length - y.j) (⟨0, [], none, 0, []⟩) (⟨Nat.zero_le _, RLap.nil _ _ _, Own.empty 3⟩) (Le.lq (by repeat (first | exact Le.nil | refine Le.cons rfl (by first | rfl | (congr 1; omega)) ?_))) (by repeat (first | exact Pulls.nil | exact Pulls.all | (apply Pulls.cons; (repeat (first | exact Pull.head | apply Pull.tail))) | apply Pulls.skip)) ?_
  rintro y ⟨hyj, hlap, hw⟩
  have hol := hlap.len
  refine WC_seq ?_
  refine WC_seq ?_
  refine WC_region ?_
  refine WL_val rfl rfl rfl (R_move rfl rfl) ?_
  refine WL_val rfl rfl rfl (R_fieldAddr rfl fa44_1 rfl) ?_
  refine WL_val rfl rfl rfl (R_load rfl sc42 rfl (by repeat (first | exact List.Mem.head _ | refine List.Mem.tail _ ?_)) rfl) ?_
  refine WL_val rfl rfl rfl (R_len rfl Try.underlying42 rfl) ?_
  refine WL_val rfl rfl rfl (R_lss rfl rfl rfl) ?_
  refine WL_nil ?_
  refine WQ_code ?_
  refine WC_dec rfl (fun c1 => ?_) (fun c1 => ?_)
  · refine WC_skip ?_
    refine WQ_code ?_
    refine WC_seq ?_
    refine WC_block ?_
    refine WC_seq ?_
    refine WC_seq ?_
    refine WC_draw _ [(0, true), (1, true), (2, true), (3, true), (4, true), (5, true), (6, true), (7, true), (8, true), (9, true), (10, true), (11, true), (12, true), (13, true), (14, true), (15, true), (16, true), (17, true), (18, true), (19, true)] followsMixed rfl rfl (by kernel_rfl) .all ?_
    obtain ⟨x, hx⟩ := exE (T := D) (i := y.j) (by omega)
    obtain ⟨bb, hbb⟩ := own.some_of (by omega)
    refine WM_val rfl rfl rfl rfl (R_fieldAddr rfl fa44_1 rfl) ?_
    refine WM_val rfl rfl rfl rfl (R_load rfl sc42 rfl (by repeat (first | exact List.Mem.head _ | refine List.Mem.tail _ ?_)) rfl) ?_
    refine WM_val rfl rfl rfl rfl (R_move rfl rfl) ?_
    refine WM_val rfl rfl rfl rfl (R_idxO hbb rfl Try.underlying42 Try.sizeOf40 rfl rfl (by omega)) ?_
    refine WM_val rfl rfl rfl rfl (R_fieldAddr rfl fa40_1 rfl) ?_
    refine WM_val rfl rfl rfl rfl (R_loadO (v := .int .u64 (x.at_ : Int)) hbb rfl sc26 rfl (by repeat (first | exact List.Mem.head _ | refine List.Mem.tail _ ?_)) (fm_get0 encLp3 hx (j := 2) (by omega))) ?_
    refine WM_val rfl rfl rfl rfl (R_fieldAddr rfl fa44_0 rfl) ?_
    refine WM_val rfl rfl rfl rfl (R_load rfl sc26 rfl (by repeat (first | exact List.Mem.head _ | refine List.Mem.tail _ ?_)) rfl) ?_
    refine WM_call rfl (Spec.quiet (rpdn_ok x.at_ now (by omega))) rfl rfl rfl rfl rfl rfl rfl (by repeat (first | exact Pulls.nil | exact Pulls.all | (apply Pulls.cons; (repeat (first | exact Pull.head | apply Pull.tail))) | apply Pulls.skip)) ?_
    refine WM_val rfl rfl rfl rfl (R_move rfl rfl) ?_
    refine WM_splitD (s := 34) rfl (fun c2 => ?_) (fun c2 => ?_)
    · refine WM_skip rfl rfl rfl rfl ?_
      refine WM_skip rfl rfl rfl rfl ?_
      refine WM_skip rfl rfl rfl rfl ?_
      refine WM_skip rfl rfl rfl rfl ?_
      refine WM_skip rfl rfl rfl rfl ?_
      refine WM_skip rfl rfl rfl rfl ?_
      refine WM_skip rfl rfl rfl rfl ?_
      refine WM_skip rfl rfl rfl rfl ?_
      refine WM_skip rfl rfl rfl rfl ?_
      refine WM_val rfl rfl rfl rfl (R_pickT rfl rfl rfl) ?_
      refine WM_nil ?_
      refine WQ_code ?_
      refine WC_T rfl ?_
      refine WC_exit ?_
      refine WQ_code ?_
      refine WC_region ?_
      refine WL_val rfl rfl rfl (R_move rfl rfl) ?_
      refine WL_val rfl rfl rfl (R_add rfl rfl rfl (by omega)) ?_
      refine WL_val rfl rfl rfl (R_assign rfl rfl) ?_
      refine WL_nil ?_
      refine WQ_nextF (⟨y.j + 1, y.o, y.ob, y.c, y.tl⟩) (⟨by dsimp only; omega, hlap.skip hx (by omega), hw⟩) (by dsimp only; omega) (Le.lq (by repeat (first | exact Le.nil | refine Le.cons rfl (by first | rfl | (congr 1; omega)) ?_))) (by repeat (first | exact Pushed.refl | refine Pushed.push rfl ?_)) rfl (by repeat (first | exact Pulls.nil | exact Pulls.all | (apply Pulls.cons; (repeat (first | exact Pull.head | apply Pull.tail))) | apply Pulls.skip))
    · refine WM_val rfl rfl rfl rfl (R_fieldAddr rfl fa44_1 rfl) ?_
      refine WM_val rfl rfl rfl rfl (R_load rfl sc42 rfl (by repeat (first | exact List.Mem.head _ | refine List.Mem.tail _ ?_)) rfl) ?_
      refine WM_val rfl rfl rfl rfl (R_move rfl rfl) ?_
      refine WM_val rfl rfl rfl rfl (R_idxO hbb rfl Try.underlying42 Try.sizeOf40 rfl rfl (by omega)) ?_
      refine WM_val rfl rfl rfl rfl (R_fieldAddr rfl fa40_1 rfl) ?_
      refine WM_val rfl rfl rfl rfl (R_loadO (v := .int .u64 (x.at_ : Int)) hbb rfl sc26 rfl (by repeat (first | exact List.Mem.head _ | refine List.Mem.tail _ ?_)) (fm_get0 encLp3 hx (j := 2) (by omega))) ?_
      refine WM_val rfl rfl rfl rfl (R_move rfl rfl) ?_
      refine WM_call rfl (Spec.quiet (rpdn_ok x.at_ to h2)) rfl rfl rfl rfl rfl rfl rfl (by repeat (first | exact Pulls.nil | exact Pulls.all | (apply Pulls.cons; (repeat (first | exact Pull.head | apply Pull.tail))) | apply Pulls.skip)) ?_
      refine WM_val rfl rfl rfl rfl (R_notD rfl rfl) ?_
      refine WM_val rfl rfl rfl rfl (R_pickF rfl rfl rfl) ?_
      refine WM_nil ?_
      refine WQ_code ?_
      refine WC_dec rfl (fun c3 => ?_) (fun c3 => ?_)
      · refine WC_exit ?_
        refine WQ_code ?_
        refine WC_region ?_
        refine WL_val rfl rfl rfl (R_move rfl rfl) ?_
        refine WL_val rfl rfl rfl (R_add rfl rfl rfl (by omega)) ?_
        refine WL_val rfl rfl rfl (R_assign rfl rfl) ?_
        refine WL_nil ?_
        refine WQ_nextF (⟨y.j + 1, y.o, y.ob, y.c, y.tl⟩) (⟨by dsimp only; omega, hlap.skip hx (by omega), hw⟩) (by dsimp only; omega) (Le.lq (by repeat (first | exact Le.nil | refine Le.cons rfl (by first | rfl | (congr 1; omega)) ?_))) (by repeat (first | exact Pushed.refl | refine Pushed.push rfl ?_)) rfl (by repeat (first | exact Pulls.nil | exact Pulls.all | (apply Pulls.cons; (repeat (first | exact Pull.head | apply Pull.tail))) | apply Pulls.skip))
      · refine WC_skip ?_
        refine WQ_code ?_
        refine WC_seq ?_
        refine WC_region ?_
        refine WL_val rfl rfl rfl (R_assign rfl rfl) ?_
        refine WL_nil ?_
        refine WQ_code ?_
        refine WC_seq ?_
        refine WC_block ?_
        refine WC_loopF (G := Nat) [9, 45, 46, 47, 48, 49, 50, 51, 52, 53, 54, 55, 56, 57, 58, 59, 60, 61, 62] (fun i => InsAt y.o x i) (fun i => [(9, .int .i64 (i : Int))]) (fun i => []) (fun i => y.o.length - i) (0) (InsAt.zero _ _) (Le.lq (by repeat (first | exact Le.nil | refine Le.cons rfl (by first | rfl | (congr 1; omega)) ?_))) (by repeat (first | exact Pulls.nil | exact Pulls.all | (apply Pulls.cons; (repeat (first | exact Pull.head | apply Pull.tail))) | apply Pulls.skip)) ?_
        rintro i hi
        have hil := hi.le
        refine WC_seq ?_
        refine WC_seq ?_
        refine WC_draw _ [(0, true), (1, true), (2, true), (3, true), (4, true), (5, true), (6, true), (7, true), (8, true), (9, true), (10, true), (11, true), (12, true), (13, true), (14, true), (15, true)] followsMixed rfl rfl (by kernel_rfl) .all ?_
        refine WM_val rfl rfl rfl rfl (R_move rfl rfl) ?_
        refine WM_val rfl rfl rfl rfl (R_move rfl rfl) ?_
        refine WM_val rfl rfl rfl rfl (R_len rfl Try.underlying42 rfl) ?_
        refine WM_val rfl rfl rfl rfl (R_lss rfl rfl rfl) ?_
        refine WM_val rfl rfl rfl rfl (R_move rfl rfl) ?_
        refine WM_splitD (s := 49) rfl (fun c4 => ?_) (fun c4 => ?_)
        · refine WM_val rfl rfl rfl rfl (R_move rfl rfl) ?_
          refine WM_val rfl rfl rfl rfl (R_move rfl rfl) ?_
          obtain ⟨z, hz⟩ := exE (T := y.o) (i := i) (by omega)
          obtain ⟨b0, hb0⟩ := hw.some_of (by omega)
          refine WM_val rfl rfl rfl rfl (R_idxO hb0 rfl Try.underlying42 Try.sizeOf40 rfl rfl (by omega)) ?_
          refine WM_val rfl rfl rfl rfl (R_loadAO (vs := [.int .i64 z.fd, .int .i64 z.dir, .int .u64 (z.at_ : Int)]) hb0 rfl ag40 rfl (by repeat (first | exact List.Mem.head _ | refine List.Mem.tail _ ?_)) rfl (fm_at0 encLp3 hz (j := 0) (vs := [.int .i64 z.fd, .int .i64 z.dir, .int .u64 (z.at_ : Int)]) (by repeat (first | exact At.nil | refine At.cons ?_ | refine At.succ ?_)) (by simp))) ?_
          refine WM_val rfl rfl rfl rfl (R_fieldAddr rfl fa44_1 rfl) ?_
          refine WM_val rfl rfl rfl rfl (R_load rfl sc42 rfl (by repeat (first | exact List.Mem.head _ | refine List.Mem.tail _ ?_)) rfl) ?_
          refine WM_val rfl rfl rfl rfl (R_move rfl rfl) ?_
          refine WM_val rfl rfl rfl rfl (R_idxO hbb rfl Try.underlying42 Try.sizeOf40 rfl rfl (by omega)) ?_
          refine WM_val rfl rfl rfl rfl (R_loadAO (vs := [.int .i64 x.fd, .int .i64 x.dir, .int .u64 (x.at_ : Int)]) hbb rfl ag40 rfl (by repeat (first | exact List.Mem.head _ | refine List.Mem.tail _ ?_)) rfl (fm_at0 encLp3 hx (j := 0) (vs := [.int .i64 x.fd, .int .i64 x.dir, .int .u64 (x.at_ : Int)]) (by repeat (first | exact At.nil | refine At.cons ?_ | refine At.succ ?_)) (by simp))) ?_
          refine WM_call rfl (Spec.quiet (rless_ok z x)) rfl rfl rfl rfl rfl rfl rfl (by repeat (first | exact Pulls.nil | exact Pulls.all | (apply Pulls.cons; (repeat (first | exact Pull.head | apply Pull.tail))) | apply Pulls.skip)) ?_
          refine WM_val rfl rfl rfl rfl (R_pickT rfl rfl rfl) ?_
          refine WM_nil ?_
          refine WQ_code ?_
          refine WC_dec rfl (fun c5 => ?_) (fun c5 => ?_)
          · refine WC_skip ?_
            refine WQ_code ?_
            refine WC_block ?_
            refine WC_region ?_
            refine WL_val rfl rfl rfl (R_move rfl rfl) ?_
            refine WL_val rfl rfl rfl (R_add rfl rfl rfl (by omega)) ?_
            refine WL_val rfl rfl rfl (R_assign rfl rfl) ?_
            refine WL_nil ?_
            refine WQ_nextF (i + 1) (hi.next hz (by assumption)) (by omega) (Le.lq (by repeat (first | exact Le.nil | refine Le.cons rfl (by first | rfl | (congr 1; omega)) ?_))) (by repeat (first | exact Pushed.refl | refine Pushed.push rfl ?_)) rfl (by repeat (first | exact Pulls.nil | exact Pulls.all | (apply Pulls.cons; (repeat (first | exact Pull.head | apply Pull.tail))) | apply Pulls.skip))
          · have hj : ∀ y9, y.o[i]? = some y9 → ¬ lpLt y9 x := fun y9 h9 => by rw [hz] at h9; obtain rfl := Option.some.inj h9; assumption
            refine WC_exit ?_
            refine WQ_code ?_
            refine WC_seq ?_
            refine WC_region ?_
            refine WL_val rfl rfl rfl (R_move rfl rfl) ?_
            refine WL_val rfl rfl rfl (R_build rfl zv40 pl40 rfl rfl) ?_
            refine WL_do rfl rfl rfl (D_buildSlice rfl si42 rfl rfl rfl) ?_
            rintro _ _ ⟨b3, rfl, rfl⟩
            refine WL_do rfl rfl rfl (D_append rfl si42 rfl (hw) (by repeat (first | exact Pull.head | apply Pull.tail)) rfl (by repeat (first | exact List.Mem.head _ | refine List.Mem.tail _ ?_)) ((by repeat (first | exact At.nil | refine At.cons ?_ | refine At.succ ?_) : At _ 0 [_, _, _])) (rfl) (rfl) (by omega) (by omega)) ?_
            rintro _ _ ⟨ob4, cap4, tl4, rfl, own4, rfl⟩
            have hN : (y.o.take i ++ x :: y.o.drop i).length = y.o.length + 1 := by rw [List.length_append, List.length_cons, List.length_take, List.length_drop]; omega
            obtain ⟨b9, rfl⟩ := own4.some_of (by omega)
            rw [show y.o.flatMap encLp ++ [Value.int .i64 0, .int .i64 0, .int .u64 0] = (y.o ++ [(⟨0, 0, 0⟩ : Lp)]).flatMap encLp from by rw [List.flatMap_append]; rfl, ← hN] at own4 ⊢
            refine WL_val rfl rfl rfl (R_assign rfl rfl) ?_
            refine WL_nil ?_
            refine WQ_code ?_
            refine WC_seq ?_
            refine WC_drawR [⟨some b9, _⟩] [(0, true), (1, true), (2, true), (3, true), (4, true), (5, true), (6, true), (7, false)] followsMixed rfl rfl (by kernel_rfl) (by repeat (first | exact Pulls.nil | exact Pulls.all | (apply Pulls.cons; (repeat (first | exact Pull.head | apply Pull.tail))) | apply Pulls.skip)) ?_
            refine WM_val rfl rfl rfl rfl (R_move rfl rfl) ?_
            refine WM_val rfl rfl rfl rfl (R_move rfl rfl) ?_
            refine WM_val rfl rfl rfl rfl (R_addR (r := ((i + 1 : Nat) : Int)) rfl rfl rfl (by rw [IntWalk.i64_in _ (by omega)]; omega)) ?_
            refine WM_val rfl rfl rfl rfl (R_sliceFromK (m := i + 1) rfl Try.underlying42 Try.sizeOf40 rfl rfl (by omega)) ?_
            refine WM_val rfl rfl rfl rfl (R_move rfl rfl) ?_
            refine WM_val rfl rfl rfl rfl (R_move rfl rfl) ?_
            refine WM_val rfl rfl rfl rfl (R_sliceFromK (m := i) rfl Try.underlying42 Try.sizeOf40 rfl rfl (by omega)) ?_
            refine WM_do rfl rfl rfl rfl (D_copy (n := y.o.length - i) (news := (y.o.drop i).flatMap encLp) rfl si42 rfl (by repeat (first | exact Pull.head | apply Pull.tail)) rfl (by repeat (first | exact List.Mem.head _ | refine List.Mem.tail _ ?_)) (copy_at y.o _ i _ hil (by have := own4.le; omega) _) (by show _ = min _ _; omega) (by rw [fm_length encLp3, List.length_drop]) (fm_all (fun x => rfl) _) (by rw [fm_length encLp3, List.length_drop, List.length_append, fm_length encLp3, List.length_append, List.length_singleton]; split <;> omega)) ?_
            rintro _ _ ⟨rfl, rfl⟩
            refine ⟨⟨_, by repeat (first | exact Pulls.nil | exact Pulls.all | (apply Pulls.cons; (repeat (first | exact Pull.head | apply Pull.tail))) | apply Pulls.skip)⟩, ?_⟩
            rw [shift_cells y.o _ i _ hil (by have := own4.le; omega)]
            obtain ⟨⟨u, hu⟩, hset⟩ := shift_set y.o ⟨0, 0, 0⟩ x i hil
            refine WM_nil ?_
            refine WQ_code ?_
            refine WC_region ?_
            refine WL_val rfl rfl rfl (R_move rfl rfl) ?_
            refine WL_val rfl rfl rfl (R_move rfl rfl) ?_
            refine WL_val rfl rfl rfl (R_fieldAddr rfl fa44_1 rfl) ?_
            refine WL_val rfl rfl rfl (R_load rfl sc42 rfl (by repeat (first | exact List.Mem.head _ | refine List.Mem.tail _ ?_)) rfl) ?_
            refine WL_val rfl rfl rfl (R_move rfl rfl) ?_
            refine WL_val rfl rfl rfl (R_idxO hbb rfl Try.underlying42 Try.sizeOf40 rfl rfl (by omega)) ?_
            refine WL_val rfl rfl rfl (R_loadAO (vs := [.int .i64 x.fd, .int .i64 x.dir, .int .u64 (x.at_ : Int)]) hbb rfl ag40 rfl (by repeat (first | exact List.Mem.head _ | refine List.Mem.tail _ ?_)) rfl (fm_at0 encLp3 hx (j := 0) (vs := [.int .i64 x.fd, .int .i64 x.dir, .int .u64 (x.at_ : Int)]) (by repeat (first | exact At.nil | refine At.cons ?_ | refine At.succ ?_)) (by simp))) ?_
            refine WL_val rfl rfl rfl (R_indexAddrN rfl Try.underlying42 Try.sizeOf40 rfl rfl (by omega)) ?_
            refine WL_do0 rfl rfl (D_store (vs := [_, _, _]) rfl Try.sizeOf40 rfl rfl rfl rfl rfl (by repeat (first | exact Pull.head | apply Pull.tail)) (by exact fm_room0 encLp3 (List.getElem?_eq_some_iff.1 hu).1 (j := 0) (by omega))) ?_
            rintro _ _ rfl
            have hput := fm_put0 encLp3 x hu (j := 0) (vs := [.int .i64 x.fd, .int .i64 x.dir, .int .u64 (x.at_ : Int)]) (by simp) rfl (tl := tl4)
            simp only [Nat.add_zero] at hput
            rw [hput, hset]
            refine WL_nil ?_
            refine WQ_code ?_
            refine WC_region ?_
            refine WL_val rfl rfl rfl (R_move rfl rfl) ?_
            refine WL_val rfl rfl rfl (R_add rfl rfl rfl (by omega)) ?_
            refine WL_val rfl rfl rfl (R_assign rfl rfl) ?_
            refine WL_nil ?_
            refine WQ_nextF (⟨y.j + 1, (y.o.take i ++ x :: y.o.drop i), some b9, cap4, tl4⟩) (⟨by dsimp only; omega, hlap.ins hr hx (by omega) hi hj, own4.like (by rw [fm_length encLp3, fm_length encLp3, hN, List.length_append, List.length_singleton])⟩) (by dsimp only; omega) (Le.lq (by repeat (first | exact Le.nil | refine Le.cons rfl (by first | rfl | (congr 1; omega)) ?_))) (by repeat (first | exact Pushed.refl | refine Pushed.push rfl ?_)) rfl (by repeat (first | exact Pulls.nil | exact Pulls.all | (apply Pulls.cons; (repeat (first | exact Pull.head | apply Pull.tail))) | apply Pulls.skip))
        · have hj : ∀ y9, y.o[i]? = some y9 → ¬ lpLt y9 x := fun y9 h9 => by have := (List.getElem?_eq_some_iff.1 h9).1; omega
          refine WM_skip rfl rfl rfl rfl ?_
          refine WM_skip rfl rfl rfl rfl ?_
          refine WM_skip rfl rfl rfl rfl ?_
          refine WM_skip rfl rfl rfl rfl ?_
          refine WM_skip rfl rfl rfl rfl ?_
          refine WM_skip rfl rfl rfl rfl ?_
          refine WM_skip rfl rfl rfl rfl ?_
          refine WM_skip rfl rfl rfl rfl ?_
          refine WM_skip rfl rfl rfl rfl ?_
          refine WM_skip rfl rfl rfl rfl ?_
          refine WM_val rfl rfl rfl rfl (R_pickF rfl rfl rfl) ?_
          refine WM_nil ?_
          refine WQ_code ?_
          refine WC_F rfl ?_
          refine WC_exit ?_
          refine WQ_code ?_
          refine WC_seq ?_
          refine WC_region ?_
          refine WL_val rfl rfl rfl (R_move rfl rfl) ?_
          refine WL_val rfl rfl rfl (R_build rfl zv40 pl40 rfl rfl) ?_
          refine WL_do rfl rfl rfl (D_buildSlice rfl si42 rfl rfl rfl) ?_
          rintro _ _ ⟨b5, rfl, rfl⟩
          refine WL_do rfl rfl rfl (D_append rfl si42 rfl (hw) (by repeat (first | exact Pull.head | apply Pull.tail)) rfl (by repeat (first | exact List.Mem.head _ | refine List.Mem.tail _ ?_)) ((by repeat (first | exact At.nil | refine At.cons ?_ | refine At.succ ?_) : At _ 0 [_, _, _])) (rfl) (rfl) (by omega) (by omega)) ?_
          rintro _ _ ⟨ob6, cap6, tl6, rfl, own6, rfl⟩
          have hN : (y.o.take i ++ x :: y.o.drop i).length = y.o.length + 1 := by rw [List.length_append, List.length_cons, List.length_take, List.length_drop]; omega
          obtain ⟨b9, rfl⟩ := own6.some_of (by omega)
          rw [show y.o.flatMap encLp ++ [Value.int .i64 0, .int .i64 0, .int .u64 0] = (y.o ++ [(⟨0, 0, 0⟩ : Lp)]).flatMap encLp from by rw [List.flatMap_append]; rfl, ← hN] at own6 ⊢
          refine WL_val rfl rfl rfl (R_assign rfl rfl) ?_
          refine WL_nil ?_
          refine WQ_code ?_
          refine WC_seq ?_
          refine WC_drawR [⟨some b9, _⟩] [(0, true), (1, true), (2, true), (3, true), (4, true), (5, true), (6, true), (7, false)] followsMixed rfl rfl (by kernel_rfl) (by repeat (first | exact Pulls.nil | exact Pulls.all | (apply Pulls.cons; (repeat (first | exact Pull.head | apply Pull.tail))) | apply Pulls.skip)) ?_
          refine WM_val rfl rfl rfl rfl (R_move rfl rfl) ?_
          refine WM_val rfl rfl rfl rfl (R_move rfl rfl) ?_
          refine WM_val rfl rfl rfl rfl (R_addR (r := ((i + 1 : Nat) : Int)) rfl rfl rfl (by rw [IntWalk.i64_in _ (by omega)]; omega)) ?_
          refine WM_val rfl rfl rfl rfl (R_sliceFromK (m := i + 1) rfl Try.underlying42 Try.sizeOf40 rfl rfl (by omega)) ?_
          refine WM_val rfl rfl rfl rfl (R_move rfl rfl) ?_
          refine WM_val rfl rfl rfl rfl (R_move rfl rfl) ?_
          refine WM_val rfl rfl rfl rfl (R_sliceFromK (m := i) rfl Try.underlying42 Try.sizeOf40 rfl rfl (by omega)) ?_
          refine WM_do rfl rfl rfl rfl (D_copy (n := y.o.length - i) (news := (y.o.drop i).flatMap encLp) rfl si42 rfl (by repeat (first | exact Pull.head | apply Pull.tail)) rfl (by repeat (first | exact List.Mem.head _ | refine List.Mem.tail _ ?_)) (copy_at y.o _ i _ hil (by have := own6.le; omega) _) (by show _ = min _ _; omega) (by rw [fm_length encLp3, List.length_drop]) (fm_all (fun x => rfl) _) (by rw [fm_length encLp3, List.length_drop, List.length_append, fm_length encLp3, List.length_append, List.length_singleton]; split <;> omega)) ?_
          rintro _ _ ⟨rfl, rfl⟩
          refine ⟨⟨_, by repeat (first | exact Pulls.nil | exact Pulls.all | (apply Pulls.cons; (repeat (first | exact Pull.head | apply Pull.tail))) | apply Pulls.skip)⟩, ?_⟩
          rw [shift_cells y.o _ i _ hil (by have := own6.le; omega)]
          obtain ⟨⟨u, hu⟩, hset⟩ := shift_set y.o ⟨0, 0, 0⟩ x i hil
          refine WM_nil ?_
          refine WQ_code ?_
          refine WC_region ?_
          refine WL_val rfl rfl rfl (R_move rfl rfl) ?_
          refine WL_val rfl rfl rfl (R_move rfl rfl) ?_
          refine WL_val rfl rfl rfl (R_fieldAddr rfl fa44_1 rfl) ?_
          refine WL_val rfl rfl rfl (R_load rfl sc42 rfl (by repeat (first | exact List.Mem.head _ | refine List.Mem.tail _ ?_)) rfl) ?_
          refine WL_val rfl rfl rfl (R_move rfl rfl) ?_
          refine WL_val rfl rfl rfl (R_idxO hbb rfl Try.underlying42 Try.sizeOf40 rfl rfl (by omega)) ?_
          refine WL_val rfl rfl rfl (R_loadAO (vs := [.int .i64 x.fd, .int .i64 x.dir, .int .u64 (x.at_ : Int)]) hbb rfl ag40 rfl (by repeat (first | exact List.Mem.head _ | refine List.Mem.tail _ ?_)) rfl (fm_at0 encLp3 hx (j := 0) (vs := [.int .i64 x.fd, .int .i64 x.dir, .int .u64 (x.at_ : Int)]) (by repeat (first | exact At.nil | refine At.cons ?_ | refine At.succ ?_)) (by simp))) ?_
          refine WL_val rfl rfl rfl (R_indexAddrN rfl Try.underlying42 Try.sizeOf40 rfl rfl (by omega)) ?_
          refine WL_do0 rfl rfl (D_store (vs := [_, _, _]) rfl Try.sizeOf40 rfl rfl rfl rfl rfl (by repeat (first | exact Pull.head | apply Pull.tail)) (by exact fm_room0 encLp3 (List.getElem?_eq_some_iff.1 hu).1 (j := 0) (by omega))) ?_
          rintro _ _ rfl
          have hput := fm_put0 encLp3 x hu (j := 0) (vs := [.int .i64 x.fd, .int .i64 x.dir, .int .u64 (x.at_ : Int)]) (by simp) rfl (tl := tl6)
          simp only [Nat.add_zero] at hput
          rw [hput, hset]
          refine WL_nil ?_
          refine WQ_code ?_
          refine WC_region ?_
          refine WL_val rfl rfl rfl (R_move rfl rfl) ?_
          refine WL_val rfl rfl rfl (R_add rfl rfl rfl (by omega)) ?_
          refine WL_val rfl rfl rfl (R_assign rfl rfl) ?_
          refine WL_nil ?_
          refine WQ_nextF (⟨y.j + 1, (y.o.take i ++ x :: y.o.drop i), some b9, cap6, tl6⟩) (⟨by dsimp only; omega, hlap.ins hr hx (by omega) hi hj, own6.like (by rw [fm_length encLp3, fm_length encLp3, hN, List.length_append, List.length_singleton])⟩) (by dsimp only; omega) (Le.lq (by repeat (first | exact Le.nil | refine Le.cons rfl (by first | rfl | (congr 1; omega)) ?_))) (by repeat (first | exact Pushed.refl | refine Pushed.push rfl ?_)) rfl (by repeat (first | exact Pulls.nil | exact Pulls.all | (apply Pulls.cons; (repeat (first | exact Pull.head | apply Pull.tail))) | apply Pulls.skip))
  · have hfin : y.j = D.length := by omega
    refine WC_exit ?_
    refine WQ_code ?_
    refine WC_seq ?_
    refine WC_region ?_
    refine WL_val rfl rfl rfl (R_move rfl rfl) ?_
    refine WL_val rfl rfl rfl (R_fieldAddr rfl fa44_1 rfl) ?_
    refine WL_val rfl rfl rfl (R_load rfl sc42 rfl (by repeat (first | exact List.Mem.head _ | refine List.Mem.tail _ ?_)) rfl) ?_
    refine WL_val rfl rfl rfl (R_build rfl zv44 pl44 rfl rfl) ?_
    refine WL_val rfl rfl rfl (R_move rfl rfl) ?_
    refine WL_do0 rfl rfl (D_store (vs := [_, _]) rfl Try.sizeOf44 rfl rfl rfl rfl rfl (by repeat (first | exact Pull.head | apply Pull.tail)) (by exact Nat.le_of_ble_eq_true rfl)) ?_
    rintro _ _ rfl
    refine WL_val rfl rfl rfl (R_assign rfl rfl) ?_
    refine WL_val rfl rfl rfl (R_assign rfl rfl) ?_
    refine WL_nil ?_
    refine WQ_code ?_
    refine WC_ret ?_
    refine WQ_ret rfl rfl (.cons (.cell (vs := [_, _]) rfl ag44 (by repeat (first | exact List.Mem.head _ | refine List.Mem.tail _ ?_)) rfl (by repeat (first | exact At.nil | refine At.cons ?_ | refine At.succ ?_))) (.cons (.tmp rfl) (.cons (.tmp rfl) .nil))) rfl (by
        exact ⟨y.o, y.ob, y.c, y.tl, rfl, hw, (hfin ▸ hlap).done hr h2, rfl⟩) (by repeat (first | exact Pulls.nil | exact Pulls.all | (apply Pulls.cons; (repeat (first | exact Pull.head | apply Pull.tail))) | apply Pulls.skip))
end

end Go.Proofs.Ytnkpefonocggfaa
