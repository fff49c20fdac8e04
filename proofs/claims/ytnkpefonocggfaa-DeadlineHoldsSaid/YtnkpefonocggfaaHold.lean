/-
  Chapter 10 (deadline), part Hold: contracts of functions that the laws call, each for the heap it names.
-/
import Derived.Test.YtnkpefonocggfaaRows
import Derived.Test.YtnkpefonocggfaaSLPhase
import Derived.Test.YtnkpefonocggfaaSLInt
import Derived.Test.YtnkpefonocggfaaTab
import Derived.Test.YtnkpefonocggfaaHoldL
import Derived.Test.YtnkpefonocggfaaSLMore
set_option linter.unusedVariables false
set_option maxRecDepth 20000
set_option maxHeartbeats 8000000
namespace Go.Proofs.Ytnkpefonocggfaa


theorem holds_bad (now : Nat) (oa : Option Addr) (n c : Nat) (one two : Nat) (hb : (n : Int) ≤ 9223372036854775807) (h : 80 < n ∨ now = 18446744073709551615) : Spec Try.prog 7 [.int .u64 (now : Int), .slice oa n c, .int .u64 (one : Int), .int .u64 (two : Int)] [] (fun r H' => r = .bool true ∧ H' = []) := by
  refine Spec.of (E := [(0, .int .u64 (now : Int)), (1, .slice oa n c), (2, .int .u64 (one : Int)), (3, .int .u64 (two : Int))]) Try.func7 rfl (by kernel_rfl) Try.ntmps7 rfl rfl (fun w => ?_)
  refine WC_seq ?_
  refine WC_region ?_
  refine WL_val rfl rfl rfl (R_assign rfl rfl) ?_
  refine WL_nil ?_
  refine WQ_code ?_
  refine WC_seq ?_
  refine WC_seq ?_
  refine WC_region ?_
  refine WL_val rfl rfl rfl (R_move rfl rfl) ?_
  refine WL_val rfl rfl rfl (R_len rfl Try.underlying59 rfl) ?_
  refine WL_val rfl rfl rfl (R_gtr rfl rfl rfl) ?_
  refine WL_val rfl rfl rfl (R_move rfl rfl) ?_
  refine WL_splitD (s := 39) rfl (fun c1 => ?_) (fun c1 => ?_)
  · refine WL_skip rfl rfl rfl ?_
    refine WL_skip rfl rfl rfl ?_
    refine WL_val rfl rfl rfl (R_pickT rfl rfl rfl) ?_
    refine WL_nil ?_
    refine WQ_code ?_
    refine WC_T rfl ?_
    refine WC_seq ?_
    refine WC_region ?_
    refine WL_do rfl rfl rfl (D_call (known_ok) rfl rfl rfl rfl (by repeat (first | exact Pulls.nil | exact Pulls.all | (apply Pulls.cons; (repeat (first | exact Pull.head | apply Pull.tail))) | apply Pulls.skip))) ?_
    rintro _ _ ⟨_, ⟨rfl, rfl⟩, rfl⟩
    refine WL_val rfl rfl rfl (R_assign rfl rfl) ?_
    refine WL_nil ?_
    refine WQ_code ?_
    refine WC_ret ?_
    refine WQ_ret rfl rfl (.cons (.tmp rfl) .nil) rfl (by
        exact ⟨rfl, rfl⟩) (by repeat (first | exact Pulls.nil | exact Pulls.all | (apply Pulls.cons; (repeat (first | exact Pull.head | apply Pull.tail))) | apply Pulls.skip))
  · refine WL_val rfl rfl rfl (R_move rfl rfl) ?_
    refine WL_val rfl rfl rfl (R_eql rfl rfl rfl) ?_
    refine WL_val rfl rfl rfl (R_pickF rfl rfl rfl) ?_
    refine WL_nil ?_
    refine WQ_code ?_
    refine WC_dec rfl (fun c2 => ?_) (fun c2 => ?_)
    · refine WC_seq ?_
      refine WC_region ?_
      refine WL_do rfl rfl rfl (D_call (known_ok) rfl rfl rfl rfl (by repeat (first | exact Pulls.nil | exact Pulls.all | (apply Pulls.cons; (repeat (first | exact Pull.head | apply Pull.tail))) | apply Pulls.skip))) ?_
      rintro _ _ ⟨_, ⟨rfl, rfl⟩, rfl⟩
      refine WL_val rfl rfl rfl (R_assign rfl rfl) ?_
      refine WL_nil ?_
      refine WQ_code ?_
      refine WC_ret ?_
      refine WQ_ret rfl rfl (.cons (.tmp rfl) .nil) rfl (by
          exact ⟨rfl, rfl⟩) (by repeat (first | exact Pulls.nil | exact Pulls.all | (apply Pulls.cons; (repeat (first | exact Pull.head | apply Pull.tail))) | apply Pulls.skip))
    · exfalso; revert h; simp_all <;> omega
theorem holds_ok (now : Nat) (hnow : now < 18446744073709551615) (oa : Option Addr) (ent : Ent) (l : List Ac) (c : Nat) (one two : Nat) (ho1 : one ≤ 18446744073709551615) (ho2 : two ≤ 18446744073709551615) (ha : Arg oa ent 4 encA l) (hOk : ∀ a ∈ l, a.tm ≤ 18446744073709551615) (h : l.length ≤ 80) : Spec Try.prog 7 [.int .u64 (now : Int), .slice oa l.length c, .int .u64 (one : Int), .int .u64 (two : Int)] [ent] (fun r H' => r = .bool true ∧ H' = [ent]) := by
  refine Spec.of (E := [(0, .int .u64 (now : Int)), (1, .slice oa l.length c), (2, .int .u64 (one : Int)), (3, .int .u64 (two : Int))]) Try.func7 rfl (by kernel_rfl) Try.ntmps7 rfl rfl (fun w => ?_)
  refine WC_seq ?_
  refine WC_region ?_
  refine WL_val rfl rfl rfl (R_assign rfl rfl) ?_
  refine WL_nil ?_
  refine WQ_code ?_
  refine WC_seq ?_
  refine WC_seq ?_
  refine WC_region ?_
  refine WL_val rfl rfl rfl (R_move rfl rfl) ?_
  refine WL_val rfl rfl rfl (R_len rfl Try.underlying59 rfl) ?_
  refine WL_val rfl rfl rfl (R_gtr rfl rfl rfl) ?_
  refine WL_val rfl rfl rfl (R_move rfl rfl) ?_
  refine WL_set (s := 39) (v := .bool false) rfl (by simp; omega) ?_
  refine WL_val rfl rfl rfl (R_move rfl rfl) ?_
  refine WL_val rfl rfl rfl (R_eql rfl rfl rfl) ?_
  refine WL_val rfl rfl rfl (R_pickF rfl rfl rfl) ?_
  refine WL_nil ?_
  refine WQ_code ?_
  refine WC_dF rfl (by omega) ?_
  refine WC_skip ?_
  refine WQ_code ?_
  refine WC_seq ?_
  refine WC_region ?_
  refine WL_val rfl rfl rfl (R_move rfl rfl) ?_
  refine WL_do rfl rfl rfl (D_call (dnew_ok now hnow) rfl rfl rfl rfl (by repeat (first | exact Pulls.nil | exact Pulls.all | (apply Pulls.cons; (repeat (first | exact Pull.head | apply Pull.tail))) | apply Pulls.skip))) ?_
  rintro _ _ ⟨_, ⟨d0, rfl, rfl, n0, g0⟩, rfl⟩
  refine WL_val rfl rfl rfl (R_move rfl rfl) ?_
  refine WL_val rfl rfl rfl (R_extract rfl rfl rfl) ?_
  refine WL_val rfl rfl rfl (R_extract rfl rfl rfl) ?_
  refine WL_val rfl rfl rfl (R_assign rfl rfl) ?_
  refine WL_val rfl rfl rfl (R_assign rfl rfl) ?_
  refine WL_nil ?_
  refine WQ_code ?_
  refine WC_seq ?_
  refine WC_seq ?_
  refine WC_region ?_
  refine WL_val rfl rfl rfl (R_move rfl rfl) ?_
  refine WL_val rfl rfl rfl (R_ptrEqNil rfl Try.underlying30 rfl) ?_
  refine WL_val rfl rfl rfl (R_move rfl rfl) ?_
  refine WL_val rfl rfl rfl (R_move rfl rfl) ?_
  refine WL_val rfl rfl rfl (R_neq rfl rfl rfl) ?_
  refine WL_set (s := 53) (v := .bool false) rfl (by simp) ?_
  refine WL_val rfl rfl rfl (R_pickF rfl rfl rfl) ?_
  refine WL_nil ?_
  refine WQ_code ?_
  refine WC_F rfl ?_
  refine WC_skip ?_
  refine WQ_code ?_
  refine WC_seq ?_
  refine WC_region ?_
  refine WL_val rfl rfl rfl (R_assign rfl rfl) ?_
  refine WL_nil ?_
  refine WQ_code ?_
  refine WC_seq ?_
  refine WC_seq ?_
  refine WC_region ?_
  refine WL_val rfl rfl rfl (R_move rfl rfl) ?_
  refine WL_val rfl rfl rfl (R_len rfl Try.underlying59 rfl) ?_
  refine WL_val rfl rfl rfl (R_move rfl rfl) ?_
  refine WL_nil ?_
  refine WQ_code ?_
  refine WC_block ?_
  refine WC_none 40 ?_
  refine WC_loopF (G := HoW) [8, 11, 13, 14, 15, 16, 18, 19, 20, 21, 22, 24, 25, 27, 29, 57, 58, 59, 60, 61, 62, 63, 64, 65, 66, 67, 68, 69, 70, 71, 72, 73, 74, 75, 76, 77, 78, 79, 80, 81, 82, 83, 84, 85, 86, 87, 88, 89, 90, 91, 92, 93, 94, 95, 96, 97, 98, 99, 100, 101, 102, 103, 104, 105, 106, 107, 108, 109, 110, 111, 112, 113, 114, 115, 116, 117, 118, 119, 120, 121, 122, 123, 124, 125, 126, 127, 128, 129, 130, 131, 132, 133, 134, 135, 136, 137, 138, 139, 140, 141, 142, 143, 144, 145, 146, 147, 148, 149, 150, 151, 152, 153, 154, 155, 156, 157, 158, 159, 160, 161, 162, 163, 164, 165, 166, 167, 168, 169, 170, 171, 172, 173, 174, 175, 176, 177, 178, 179, 180, 181, 182, 183, 184, 185, 186, 187, 188, 189, 190, 191, 192, 193, 194, 195, 196, 197, 198, 199, 200, 201, 202, 203, 204, 205, 206, 207, 208, 209, 210, 211, 212, 213, 214, 215, 216, 217, 218, 219, 220, 221, 222, 223] (fun y => y.k ≤ l.length ∧ DIs y.f y.now y.d ∧ y.d.p = d0.p ∧ RD (act y.f y.now) y.F ∧ Own y.ob y.F.length y.c 3 (y.F.flatMap encLp) y.tl ∧ y.d.m.g.n ≤ 2 * y.k) (fun y => [(57, .int .i64 (y.k : Int)), (11, slV y.ob y.F.length y.c)]) (fun y => dlH y.now y.d ++ [⟨y.ob, cl (y.F.flatMap encLp ++ y.tl) 40⟩]) (fun y => l.length - y.k) (⟨0, F0, now, d0, [], none, 0, []⟩) (⟨Nat.zero_le _, g0, rfl, by dsimp only; rw [act_new]; exact RD.new, Own.empty 3, by dsimp only; omega⟩) (Le.lq (by repeat (first | exact Le.nil | refine Le.cons rfl (by first | rfl | (congr 1; omega)) ?_))) (by repeat (first | exact Pulls.nil | exact Pulls.all | (apply Pulls.cons; (repeat (first | exact Pull.head | apply Pull.tail))) | apply Pulls.skip)) ?_
  rintro y ⟨hyk, hy, hyp, hr, own, hyn⟩
  rw [← hyp]
  have hFl := hr.len
  refine WC_seq ?_
  refine WC_region ?_
  refine WL_val rfl rfl rfl (R_lss rfl rfl rfl) ?_
  refine WL_nil ?_
  refine WQ_code ?_
  refine WC_seq ?_
  refine WC_dec rfl (fun c1 => ?_) (fun c1 => ?_)
  · refine WC_skip ?_
    refine WQ_code ?_
    refine WC_seq ?_
    refine WC_block ?_
    refine WC_seq ?_
    refine WC_region ?_
    obtain ⟨a, hak⟩ := exE (T := l) (i := y.k) (by omega)
    obtain ⟨lb, lk, lcs, le, lfr, rfl, rfl, hat⟩ := ha.some (by omega)
    have htm := hOk a (List.mem_of_getElem? hak)
    refine WL_val rfl rfl rfl (R_indexAddrN rfl Try.underlying59 Try.sizeOf61 rfl rfl (by omega)) ?_
    refine WL_val rfl rfl rfl (R_loadAG (vs := encA a) rfl ag61 rfl (by repeat (first | exact List.Mem.head _ | refine List.Mem.tail _ ?_)) rfl (hat y.k a hak)) ?_
    refine WL_do rfl rfl rfl (D_alloc rfl zv61) ?_
    rintro _ _ ⟨b1, rfl, rfl⟩
    refine WL_do0 rfl rfl (D_store (vs := [_, _, _, _]) rfl Try.sizeOf61 rfl rfl rfl rfl rfl (by repeat (first | exact Pull.head | apply Pull.tail)) (by exact Nat.le_of_ble_eq_true rfl)) ?_
    rintro _ _ rfl
    refine WL_nil ?_
    refine WQ_code ?_
    refine WC_seq ?_
    refine WC_region ?_
    refine WL_val rfl rfl rfl (R_assign rfl rfl) ?_
    refine WL_nil ?_
    refine WQ_code ?_
    refine WC_seq ?_
    refine WC_seq ?_
    refine WC_region ?_
    refine WL_val rfl rfl rfl (R_fieldAddr rfl fa61_0 rfl) ?_
    refine WL_val rfl rfl rfl (R_load rfl sc3 rfl (by repeat (first | exact List.Mem.head _ | refine List.Mem.tail _ ?_)) rfl) ?_
    refine WL_nil ?_
    refine WQ_code ?_
    refine WC_block ?_
    refine WC_seq ?_
    refine WC_seq ?_
    refine WC_region ?_
    refine WL_val rfl rfl rfl (R_eql rfl rfl rfl) ?_
    refine WL_val rfl rfl rfl (R_assign rfl rfl) ?_
    refine WL_nil ?_
    refine WQ_code ?_
    refine WC_dec rfl (fun c2 => ?_) (fun c2 => ?_)
    · refine WC_skip ?_
      refine WQ_code ?_
      refine WC_dT rfl c2 ?_
      refine WC_seq ?_
      refine WC_draw _ [(0, true), (1, true), (2, true), (3, true), (4, false), (5, false), (6, true)] followsMixed rfl rfl (by kernel_rfl) .all ?_
      refine WM_val rfl rfl rfl rfl (R_fieldAddr rfl fa61_1 rfl) ?_
      refine WM_val rfl rfl rfl rfl (R_loadA (vs := [_, _]) rfl ag24 rfl (by repeat (first | exact List.Mem.head _ | refine List.Mem.tail _ ?_)) rfl (by repeat (first | exact At.nil | refine At.cons ?_ | refine At.succ ?_))) ?_
      refine WM_val rfl rfl rfl rfl (R_fieldAddr rfl fa61_2 rfl) ?_
      refine WM_val rfl rfl rfl rfl (R_load rfl sc26 rfl (by repeat (first | exact List.Mem.head _ | refine List.Mem.tail _ ?_)) rfl) ?_
      refine WM_do rfl rfl rfl rfl (D_alloc rfl zv24) ?_
      rintro _ _ ⟨b2, rfl, rfl⟩
      refine ⟨⟨_, by repeat (first | exact Pulls.nil | exact Pulls.all | (apply Pulls.cons; (repeat (first | exact Pull.head | apply Pull.tail))) | apply Pulls.skip)⟩, ?_⟩
      refine WM_do0 rfl rfl rfl (D_store (vs := [_, _]) rfl Try.sizeOf24 rfl rfl rfl rfl rfl (by repeat (first | exact Pull.head | apply Pull.tail)) (by exact Nat.le_of_ble_eq_true rfl)) ?_
      rintro _ _ rfl
      refine ⟨⟨_, by repeat (first | exact Pulls.nil | exact Pulls.all | (apply Pulls.cons; (repeat (first | exact Pull.head | apply Pull.tail))) | apply Pulls.skip)⟩, ?_⟩
      refine WM_val rfl rfl rfl rfl (R_assign rfl rfl) ?_
      refine WM_nil ?_
      refine WQ_code ?_
      refine WC_seq ?_
      refine WC_seq ?_
      refine WC_region ?_
      refine WL_val rfl rfl rfl (R_move rfl rfl) ?_
      refine WL_val rfl rfl rfl (R_len rfl Try.underlying42 rfl) ?_
      refine WL_val rfl rfl rfl (R_move rfl rfl) ?_
      refine WL_nil ?_
      refine WQ_code ?_
      refine WC_block ?_
      refine WC_none 40 ?_
      refine WC_loopF (G := RsW) [14, 18, 72, 73, 74, 75, 76, 77, 78, 79, 80, 81, 82, 83, 84, 85, 86, 87, 88, 89, 90, 91, 92, 93, 94, 95, 96, 97] (fun z => z.j ≤ y.F.length ∧ z.o = restA a (y.F.take z.j) ∧ Own z.ob z.o.length z.c 3 (z.o.flatMap encLp) z.tl) (fun z => [(72, .int .i64 (z.j : Int)), (14, slV z.ob z.o.length z.c)]) (fun z => [⟨z.ob, cl (z.o.flatMap encLp ++ z.tl) 40⟩]) (fun z => y.F.length - z.j) (⟨0, [], none, 0, []⟩) (⟨Nat.zero_le _, rfl, Own.empty 3⟩) (Le.lq (by repeat (first | exact Le.nil | refine Le.cons rfl (by first | rfl | (congr 1; omega)) ?_))) (by repeat (first | exact Pulls.nil | exact Pulls.all | (apply Pulls.cons; (repeat (first | exact Pull.head | apply Pull.tail))) | apply Pulls.skip)) ?_
      rintro z ⟨hj, ho, hw⟩
      have hol : z.o.length ≤ 256 := by rw [ho]; exact Nat.le_trans (List.length_filter_le _ _) (by rw [List.length_take]; omega)
      refine WC_seq ?_
      refine WC_region ?_
      refine WL_val rfl rfl rfl (R_lss rfl rfl rfl) ?_
      refine WL_nil ?_
      refine WQ_code ?_
      refine WC_seq ?_
      refine WC_dec rfl (fun c3 => ?_) (fun c3 => ?_)
      · refine WC_skip ?_
        refine WQ_code ?_
        refine WC_seq ?_
        refine WC_block ?_
        refine WC_seq ?_
        refine WC_region ?_
        obtain ⟨x, hx⟩ := exE (T := y.F) (i := z.j) (by omega)
        obtain ⟨bx, hbx⟩ := own.some_of (by omega)
        rw [hbx]
        refine WL_val rfl rfl rfl (R_indexAddrN rfl Try.underlying42 Try.sizeOf40 rfl rfl (by omega)) ?_
        refine WL_val rfl rfl rfl (R_loadA (vs := [.int .i64 x.fd, .int .i64 x.dir, .int .u64 (x.at_ : Int)]) rfl ag40 rfl (by repeat (first | exact List.Mem.head _ | refine List.Mem.tail _ ?_)) rfl (fm_at0 encLp3 hx (j := 0) (vs := [.int .i64 x.fd, .int .i64 x.dir, .int .u64 (x.at_ : Int)]) (by repeat (first | exact At.nil | refine At.cons ?_ | refine At.succ ?_)) (by simp))) ?_
        refine WL_do rfl rfl rfl (D_alloc rfl zv40) ?_
        rintro _ _ ⟨b3, rfl, rfl⟩
        refine WL_do0 rfl rfl (D_store (vs := [_, _, _]) rfl Try.sizeOf40 rfl rfl rfl rfl rfl (by repeat (first | exact Pull.head | apply Pull.tail)) (by exact Nat.le_of_ble_eq_true rfl)) ?_
        rintro _ _ rfl
        refine WL_nil ?_
        refine WQ_code ?_
        refine WC_seq ?_
        refine WC_region ?_
        refine WL_val rfl rfl rfl (R_fieldAddr rfl fa40_0 rfl) ?_
        refine WL_val rfl rfl rfl (R_loadA (vs := [_, _]) rfl ag24 rfl (by repeat (first | exact List.Mem.head _ | refine List.Mem.tail _ ?_)) rfl (by repeat (first | exact At.nil | refine At.cons ?_ | refine At.succ ?_))) ?_
        refine WL_val rfl rfl rfl (R_loadA (vs := [_, _]) rfl ag24 rfl (by repeat (first | exact List.Mem.head _ | refine List.Mem.tail _ ?_)) rfl (by repeat (first | exact At.nil | refine At.cons ?_ | refine At.succ ?_))) ?_
        refine WL_val rfl rfl rfl (R_sne24 rfl rfl rfl rfl) ?_
        refine WL_val rfl rfl rfl (R_move rfl rfl) ?_
        refine WL_splitD (s := 80) rfl (fun c4 => ?_) (fun c4 => ?_)
        · refine WL_val rfl rfl rfl (R_fieldAddr rfl fa61_0 rfl) ?_
          refine WL_val rfl rfl rfl (R_load rfl sc3 rfl (by repeat (first | exact List.Mem.head _ | refine List.Mem.tail _ ?_)) rfl) ?_
          refine WL_val rfl rfl rfl (R_eql rfl rfl rfl) ?_
          refine WL_val rfl rfl rfl (R_move rfl rfl) ?_
          refine WL_splitD (s := 84) rfl (fun c5 => ?_) (fun c5 => ?_)
          · refine WL_skip rfl rfl rfl ?_
            refine WL_skip rfl rfl rfl ?_
            refine WL_skip rfl rfl rfl ?_
            refine WL_skip rfl rfl rfl ?_
            refine WL_skip rfl rfl rfl ?_
            refine WL_skip rfl rfl rfl ?_
            refine WL_val rfl rfl rfl (R_pickT rfl rfl rfl) ?_
            refine WL_val rfl rfl rfl (R_pickT rfl rfl rfl) ?_
            refine WL_nil ?_
            refine WQ_code ?_
            refine WC_T rfl ?_
            refine WC_region ?_
            refine WL_val rfl rfl rfl (R_move rfl rfl) ?_
            refine WL_val rfl rfl rfl (R_loadA (vs := [_, _, _]) rfl ag40 rfl (by repeat (first | exact List.Mem.head _ | refine List.Mem.tail _ ?_)) rfl (by repeat (first | exact At.nil | refine At.cons ?_ | refine At.succ ?_))) ?_
            refine WL_do rfl rfl rfl (D_buildSlice rfl si42 rfl rfl rfl) ?_
            rintro _ _ ⟨b4, rfl, rfl⟩
            refine WL_do rfl rfl rfl (D_append rfl si42 rfl (hw) (by repeat (first | exact Pull.head | apply Pull.tail)) rfl (by repeat (first | exact List.Mem.head _ | refine List.Mem.tail _ ?_)) ((by repeat (first | exact At.nil | refine At.cons ?_ | refine At.succ ?_) : At _ 0 [_, _, _])) (rfl) (rfl) (by omega) (by omega)) ?_
            rintro _ _ ⟨ob5, cap5, tl5, rfl, own5, rfl⟩
            rw [show z.o.flatMap encLp ++ [Value.int .i64 x.fd, .int .i64 x.dir, .int .u64 (x.at_ : Int)] = (z.o ++ [x]).flatMap encLp from by rw [List.flatMap_append]; rfl, show z.o.length + 1 = (z.o ++ [x]).length from by rw [List.length_append]; rfl] at *
            refine WL_val rfl rfl rfl (R_assign rfl rfl) ?_
            refine WL_nil ?_
            refine WQ_code ?_
            refine WC_region ?_
            refine WL_val rfl rfl rfl (R_add rfl rfl rfl (by omega)) ?_
            refine WL_val rfl rfl rfl (R_move rfl rfl) ?_
            refine WL_nil ?_
            refine WQ_nextF (⟨z.j + 1, z.o ++ [x], ob5, cap5, tl5⟩) (⟨by dsimp only; omega, by dsimp only; rw [tk_next hx, restA_snoc, if_pos (by unfold KeepP; omega), ho], own5⟩) (by dsimp only; omega) (Le.lq (by repeat (first | exact Le.nil | refine Le.cons rfl (by first | rfl | (congr 1; omega)) ?_))) (by repeat (first | exact Pushed.refl | refine Pushed.push rfl ?_)) rfl (by repeat (first | exact Pulls.nil | exact Pulls.all | (apply Pulls.cons; (repeat (first | exact Pull.head | apply Pull.tail))) | apply Pulls.skip))
          · refine WL_val rfl rfl rfl (R_fieldAddr rfl fa40_0 rfl) ?_
            refine WL_val rfl rfl rfl (R_fieldAddr rfl fa24_0 rfl) ?_
            refine WL_val rfl rfl rfl (R_load rfl sc3 rfl (by repeat (first | exact List.Mem.head _ | refine List.Mem.tail _ ?_)) rfl) ?_
            refine WL_val rfl rfl rfl (R_fieldAddr rfl fa24_0 rfl) ?_
            refine WL_val rfl rfl rfl (R_load rfl sc3 rfl (by repeat (first | exact List.Mem.head _ | refine List.Mem.tail _ ?_)) rfl) ?_
            refine WL_val rfl rfl rfl (R_neq rfl rfl rfl) ?_
            refine WL_val rfl rfl rfl (R_pickF rfl rfl rfl) ?_
            refine WL_val rfl rfl rfl (R_pickT rfl rfl rfl) ?_
            refine WL_nil ?_
            refine WQ_code ?_
            refine WC_dec rfl (fun c6 => ?_) (fun c6 => ?_)
            · refine WC_region ?_
              refine WL_val rfl rfl rfl (R_move rfl rfl) ?_
              refine WL_val rfl rfl rfl (R_loadA (vs := [_, _, _]) rfl ag40 rfl (by repeat (first | exact List.Mem.head _ | refine List.Mem.tail _ ?_)) rfl (by repeat (first | exact At.nil | refine At.cons ?_ | refine At.succ ?_))) ?_
              refine WL_do rfl rfl rfl (D_buildSlice rfl si42 rfl rfl rfl) ?_
              rintro _ _ ⟨b6, rfl, rfl⟩
              refine WL_do rfl rfl rfl (D_append rfl si42 rfl (hw) (by repeat (first | exact Pull.head | apply Pull.tail)) rfl (by repeat (first | exact List.Mem.head _ | refine List.Mem.tail _ ?_)) ((by repeat (first | exact At.nil | refine At.cons ?_ | refine At.succ ?_) : At _ 0 [_, _, _])) (rfl) (rfl) (by omega) (by omega)) ?_
              rintro _ _ ⟨ob7, cap7, tl7, rfl, own7, rfl⟩
              rw [show z.o.flatMap encLp ++ [Value.int .i64 x.fd, .int .i64 x.dir, .int .u64 (x.at_ : Int)] = (z.o ++ [x]).flatMap encLp from by rw [List.flatMap_append]; rfl, show z.o.length + 1 = (z.o ++ [x]).length from by rw [List.length_append]; rfl] at *
              refine WL_val rfl rfl rfl (R_assign rfl rfl) ?_
              refine WL_nil ?_
              refine WQ_code ?_
              refine WC_region ?_
              refine WL_val rfl rfl rfl (R_add rfl rfl rfl (by omega)) ?_
              refine WL_val rfl rfl rfl (R_move rfl rfl) ?_
              refine WL_nil ?_
              refine WQ_nextF (⟨z.j + 1, z.o ++ [x], ob7, cap7, tl7⟩) (⟨by dsimp only; omega, by dsimp only; rw [tk_next hx, restA_snoc, if_pos (by unfold KeepP; omega), ho], own7⟩) (by dsimp only; omega) (Le.lq (by repeat (first | exact Le.nil | refine Le.cons rfl (by first | rfl | (congr 1; omega)) ?_))) (by repeat (first | exact Pushed.refl | refine Pushed.push rfl ?_)) rfl (by repeat (first | exact Pulls.nil | exact Pulls.all | (apply Pulls.cons; (repeat (first | exact Pull.head | apply Pull.tail))) | apply Pulls.skip))
            · refine WC_skip ?_
              refine WQ_code ?_
              refine WC_region ?_
              refine WL_val rfl rfl rfl (R_add rfl rfl rfl (by omega)) ?_
              refine WL_val rfl rfl rfl (R_move rfl rfl) ?_
              refine WL_nil ?_
              refine WQ_nextF (⟨z.j + 1, z.o, z.ob, z.c, z.tl⟩) (⟨by dsimp only; omega, by dsimp only; rw [tk_next hx, restA_snoc, if_neg (by unfold KeepP; omega), List.append_nil, ho], hw⟩) (by dsimp only; omega) (Le.lq (by repeat (first | exact Le.nil | refine Le.cons rfl (by first | rfl | (congr 1; omega)) ?_))) (by repeat (first | exact Pushed.refl | refine Pushed.push rfl ?_)) rfl (by repeat (first | exact Pulls.nil | exact Pulls.all | (apply Pulls.cons; (repeat (first | exact Pull.head | apply Pull.tail))) | apply Pulls.skip))
        · refine WL_skip rfl rfl rfl ?_
          refine WL_skip rfl rfl rfl ?_
          refine WL_skip rfl rfl rfl ?_
          refine WL_skip rfl rfl rfl ?_
          refine WL_skip rfl rfl rfl ?_
          refine WL_skip rfl rfl rfl ?_
          refine WL_skip rfl rfl rfl ?_
          refine WL_skip rfl rfl rfl ?_
          refine WL_skip rfl rfl rfl ?_
          refine WL_skip rfl rfl rfl ?_
          refine WL_skip rfl rfl rfl ?_
          refine WL_val rfl rfl rfl (R_pickF rfl rfl rfl) ?_
          refine WL_nil ?_
          refine WQ_code ?_
          refine WC_F rfl ?_
          refine WC_skip ?_
          refine WQ_code ?_
          refine WC_region ?_
          refine WL_val rfl rfl rfl (R_add rfl rfl rfl (by omega)) ?_
          refine WL_val rfl rfl rfl (R_move rfl rfl) ?_
          refine WL_nil ?_
          refine WQ_nextF (⟨z.j + 1, z.o, z.ob, z.c, z.tl⟩) (⟨by dsimp only; omega, by dsimp only; rw [tk_next hx, restA_snoc, if_neg (by unfold KeepP; omega), List.append_nil, ho], hw⟩) (by dsimp only; omega) (Le.lq (by repeat (first | exact Le.nil | refine Le.cons rfl (by first | rfl | (congr 1; omega)) ?_))) (by repeat (first | exact Pushed.refl | refine Pushed.push rfl ?_)) rfl (by repeat (first | exact Pulls.nil | exact Pulls.all | (apply Pulls.cons; (repeat (first | exact Pull.head | apply Pull.tail))) | apply Pulls.skip))
      · have hfin : z.o = restA a y.F := by rw [ho, List.take_of_length_le (by omega)]
        refine WC_exit ?_
        refine WQ_code ?_
        refine WC_seq ?_
        refine WC_seq ?_
        refine WC_region ?_
        refine WL_val rfl rfl rfl (R_fieldAddr rfl fa61_0 rfl) ?_
        refine WL_val rfl rfl rfl (R_load rfl sc3 rfl (by repeat (first | exact List.Mem.head _ | refine List.Mem.tail _ ?_)) rfl) ?_
        refine WL_val rfl rfl rfl (R_eql rfl rfl rfl) ?_
        refine WL_nil ?_
        refine WQ_code ?_
        refine WC_dF rfl (by omega) ?_
        refine WC_skip ?_
        refine WQ_code ?_
        refine WC_seq ?_
        refine WC_region ?_
        refine WL_val rfl rfl rfl (R_move rfl rfl) ?_
        refine WL_val rfl rfl rfl (R_loadA (vs := [_, _]) rfl ag24 rfl (by repeat (first | exact List.Mem.head _ | refine List.Mem.tail _ ?_)) rfl (by repeat (first | exact At.nil | refine At.cons ?_ | refine At.succ ?_))) ?_
        refine WL_val rfl rfl rfl (R_move rfl rfl) ?_
        refine WL_do rfl rfl rfl (D_call (dset_any y.d hy a.fd a.dir a.tm htm (by omega)) rfl rfl rfl rfl (by repeat (first | exact Pulls.nil | exact Pulls.all | (apply Pulls.cons; (repeat (first | exact Pull.head | apply Pull.tail))) | apply Pulls.skip))) ?_
        rintro _ _ ⟨_, ⟨d', rfl, rfl, hdp, hdn, hd'⟩, rfl⟩
        rw [← hdp]
        refine WL_val rfl rfl rfl (R_move rfl rfl) ?_
        refine WL_val rfl rfl rfl (R_extract rfl rfl rfl) ?_
        refine WL_val rfl rfl rfl (R_extract rfl rfl rfl) ?_
        refine WL_val rfl rfl rfl (R_assign rfl rfl) ?_
        refine WL_val rfl rfl rfl (R_assign rfl rfl) ?_
        refine WL_nil ?_
        refine WQ_code ?_
        refine WC_seq ?_
        refine WC_seq ?_
        refine WC_region ?_
        refine WL_val rfl rfl rfl (R_move rfl rfl) ?_
        refine WL_val rfl rfl rfl (R_eql rfl rfl rfl) ?_
        refine WL_val rfl rfl rfl (R_loadA (vs := [_, _]) rfl ag24 rfl (by repeat (first | exact List.Mem.head _ | refine List.Mem.tail _ ?_)) rfl (by repeat (first | exact At.nil | refine At.cons ?_ | refine At.succ ?_))) ?_
        refine WL_do rfl rfl rfl (D_call (spot_ok a.fd a.dir) rfl rfl rfl rfl (by repeat (first | exact Pulls.nil | exact Pulls.all | (apply Pulls.cons; (repeat (first | exact Pull.head | apply Pull.tail))) | apply Pulls.skip))) ?_
        rintro _ _ ⟨_, ⟨rfl, rfl⟩, rfl⟩
        refine WL_val rfl rfl rfl (R_boolNe rfl Try.underlying4 rfl rfl) ?_
        refine WL_set (s := 127) (v := .bool false) rfl (by simp) ?_
        refine WL_nil ?_
        refine WQ_code ?_
        refine WC_F rfl ?_
        refine WC_skip ?_
        refine WQ_code ?_
        refine WC_seq ?_
        refine WC_seq ?_
        refine WC_region ?_
        refine WL_val rfl rfl rfl (R_move rfl rfl) ?_
        refine WL_val rfl rfl rfl (R_neq rfl rfl rfl) ?_
        refine WL_nil ?_
        refine WQ_code ?_
        refine WC_dec rfl (fun c7 => ?_) (fun c7 => ?_)
        · refine WC_exit ?_
          refine WQ_code ?_
          refine WC_region ?_
          refine WL_val rfl rfl rfl (R_add rfl rfl rfl (by omega)) ?_
          refine WL_val rfl rfl rfl (R_move rfl rfl) ?_
          refine WL_nil ?_
          refine WQ_nextF (⟨y.k + 1, setF y.f a.fd a.dir a.tm, y.now, d', y.F, y.ob, y.c, y.tl⟩) (⟨by dsimp only; omega, hd', rfl, hold_same hr (by omega), own, by dsimp only; omega⟩) (by dsimp only; omega) (Le.lq (by repeat (first | exact Le.nil | refine Le.cons rfl (by first | rfl | (congr 1; omega)) ?_))) (by repeat (first | exact Pushed.refl | refine Pushed.push rfl ?_)) rfl (by repeat (first | exact Pulls.nil | exact Pulls.all | (apply Pulls.cons; (repeat (first | exact Pull.head | apply Pull.tail))) | apply Pulls.skip))
        · refine WC_skip ?_
          refine WQ_code ?_
          refine WC_seq ?_
          refine WC_seq ?_
          refine WC_region ?_
          refine WL_val rfl rfl rfl (R_move rfl rfl) ?_
          refine WL_val rfl rfl rfl (R_move rfl rfl) ?_
          refine WL_val rfl rfl rfl (R_neq rfl rfl rfl) ?_
          refine WL_val rfl rfl rfl (R_move rfl rfl) ?_
          refine WL_splitD (s := 133) rfl (fun c8 => ?_) (fun c8 => ?_)
          · refine WL_val rfl rfl rfl (R_move rfl rfl) ?_
            refine WL_val rfl rfl rfl (R_move rfl rfl) ?_
            refine WL_do rfl rfl rfl (D_call (dnow_ok d' hd') rfl rfl rfl rfl (by repeat (first | exact Pulls.nil | exact Pulls.all | (apply Pulls.cons; (repeat (first | exact Pull.head | apply Pull.tail))) | apply Pulls.skip))) ?_
            rintro _ _ ⟨_, ⟨rfl, rfl⟩, rfl⟩
            refine WL_val rfl rfl rfl (R_leq rfl rfl rfl) ?_
            refine WL_val rfl rfl rfl (R_pickT rfl rfl rfl) ?_
            refine WL_val rfl rfl rfl (R_boolNe rfl Try.underlying4 rfl rfl) ?_
            refine WL_set (s := 139) (v := .bool false) rfl (by first | (rw [show decide (spotE a.fd a.dir = 0 ∧ a.tm ≤ y.now) = decide ((a.tm : Int) ≤ (y.now : Int)) from decide_eq_decide.2 (by omega)]; simp; done) | (rw [show decide (spotE a.fd a.dir = 0 ∧ a.tm ≤ y.now) = false from decide_eq_false (by have := hy.r.nv; omega)]; rfl)) ?_
            refine WL_nil ?_
            refine WQ_code ?_
            refine WC_F rfl ?_
            refine WC_skip ?_
            refine WQ_code ?_
            refine WC_seq ?_
            refine WC_seq ?_
            refine WC_region ?_
            refine WL_val rfl rfl rfl (R_move rfl rfl) ?_
            refine WL_val rfl rfl rfl (R_notD rfl rfl) ?_
            refine WL_val rfl rfl rfl (R_move rfl rfl) ?_
            refine WL_splitD (s := 142) rfl (fun c9 => ?_) (fun c9 => ?_)
            · refine WL_val rfl rfl rfl (R_move rfl rfl) ?_
              refine WL_val rfl rfl rfl (R_neq rfl rfl rfl) ?_
              refine WL_val rfl rfl rfl (R_pickT rfl rfl rfl) ?_
              refine WL_nil ?_
              refine WQ_code ?_
              refine WC_dec rfl (fun c10 => ?_) (fun c10 => ?_)
              · refine WC_region ?_
                refine WL_val rfl rfl rfl (R_move rfl rfl) ?_
                refine WL_val rfl rfl rfl (R_loadA (vs := [_, _]) rfl ag24 rfl (by repeat (first | exact List.Mem.head _ | refine List.Mem.tail _ ?_)) rfl (by repeat (first | exact At.nil | refine At.cons ?_ | refine At.succ ?_))) ?_
                refine WL_val rfl rfl rfl (R_move rfl rfl) ?_
                refine WL_val rfl rfl rfl (R_build rfl zv40 pl40 rfl rfl) ?_
                refine WL_do rfl rfl rfl (D_buildSlice rfl si42 rfl rfl rfl) ?_
                rintro _ _ ⟨b8, rfl, rfl⟩
                refine WL_do rfl rfl rfl (D_append rfl si42 rfl (hw) (by repeat (first | exact Pull.head | apply Pull.tail)) rfl (by repeat (first | exact List.Mem.head _ | refine List.Mem.tail _ ?_)) ((by repeat (first | exact At.nil | refine At.cons ?_ | refine At.succ ?_) : At _ 0 [_, _, _])) (rfl) (rfl) (by omega) (by omega)) ?_
                rintro _ _ ⟨ob9, cap9, tl9, rfl, own9, rfl⟩
                rw [show z.o.flatMap encLp ++ [Value.int .i64 a.fd, .int .i64 a.dir, .int .u64 (a.tm : Int)] = (z.o ++ [(⟨a.fd, a.dir, a.tm⟩ : Lp)]).flatMap encLp from by rw [List.flatMap_append]; rfl, show z.o.length + 1 = (z.o ++ [(⟨a.fd, a.dir, a.tm⟩ : Lp)]).length from by rw [List.length_append]; rfl] at *
                refine WL_val rfl rfl rfl (R_assign rfl rfl) ?_
                refine WL_nil ?_
                refine WQ_code ?_
                refine WC_region ?_
                refine WL_val rfl rfl rfl (R_move rfl rfl) ?_
                refine WL_val rfl rfl rfl (R_assign rfl rfl) ?_
                refine WL_nil ?_
                refine WQ_code ?_
                refine WC_seq ?_
                refine WC_region ?_
                refine WL_val rfl rfl rfl (R_move rfl rfl) ?_
                refine WL_do rfl rfl rfl (D_call (dnext_ok d' hd') rfl rfl rfl rfl (by repeat (first | exact Pulls.nil | exact Pulls.all | (apply Pulls.cons; (repeat (first | exact Pull.head | apply Pull.tail))) | apply Pulls.skip))) ?_
                rintro _ _ ⟨_, ⟨rfl, rfl⟩, rfl⟩
                refine WL_val rfl rfl rfl (R_move rfl rfl) ?_
                refine WL_do rfl rfl rfl (D_call (dnow_ok d' hd') rfl rfl rfl rfl (by repeat (first | exact Pulls.nil | exact Pulls.all | (apply Pulls.cons; (repeat (first | exact Pull.head | apply Pull.tail))) | apply Pulls.skip))) ?_
                rintro _ _ ⟨_, ⟨rfl, rfl⟩, rfl⟩
                refine WL_val rfl rfl rfl (R_leq rfl rfl rfl) ?_
                refine WL_nil ?_
                refine WQ_code ?_
                refine WC_dF rfl (by have h9 := (hd'.r.next).gt hd'.r.nv; omega) ?_
                refine WC_skip ?_
                refine WQ_code ?_
                refine WC_region ?_
                refine WL_val rfl rfl rfl (R_add rfl rfl rfl (by omega)) ?_
                refine WL_val rfl rfl rfl (R_move rfl rfl) ?_
                refine WL_nil ?_
                refine WQ_nextF (⟨y.k + 1, setF y.f a.fd a.dir a.tm, y.now, d', z.o ++ [⟨a.fd, a.dir, a.tm⟩], ob9, cap9, tl9⟩) (⟨by dsimp only; omega, hd', rfl, by dsimp only; rw [hfin]; exact hold_put hr (by omega) (by omega) (by omega) (by omega), own9, by dsimp only; omega⟩) (by dsimp only; omega) (Le.lq (by repeat (first | exact Le.nil | refine Le.cons rfl (by first | rfl | (congr 1; omega)) ?_))) (by repeat (first | exact Pushed.refl | refine Pushed.push rfl ?_)) rfl (by repeat (first | exact Pulls.nil | exact Pulls.all | (apply Pulls.cons; (repeat (first | exact Pull.head | apply Pull.tail))) | apply Pulls.skip))
              · refine WC_skip ?_
                refine WQ_code ?_
                refine WC_region ?_
                refine WL_val rfl rfl rfl (R_move rfl rfl) ?_
                refine WL_val rfl rfl rfl (R_assign rfl rfl) ?_
                refine WL_nil ?_
                refine WQ_code ?_
                refine WC_seq ?_
                refine WC_region ?_
                refine WL_val rfl rfl rfl (R_move rfl rfl) ?_
                refine WL_do rfl rfl rfl (D_call (dnext_ok d' hd') rfl rfl rfl rfl (by repeat (first | exact Pulls.nil | exact Pulls.all | (apply Pulls.cons; (repeat (first | exact Pull.head | apply Pull.tail))) | apply Pulls.skip))) ?_
                rintro _ _ ⟨_, ⟨rfl, rfl⟩, rfl⟩
                refine WL_val rfl rfl rfl (R_move rfl rfl) ?_
                refine WL_do rfl rfl rfl (D_call (dnow_ok d' hd') rfl rfl rfl rfl (by repeat (first | exact Pulls.nil | exact Pulls.all | (apply Pulls.cons; (repeat (first | exact Pull.head | apply Pull.tail))) | apply Pulls.skip))) ?_
                rintro _ _ ⟨_, ⟨rfl, rfl⟩, rfl⟩
                refine WL_val rfl rfl rfl (R_leq rfl rfl rfl) ?_
                refine WL_nil ?_
                refine WQ_code ?_
                refine WC_dF rfl (by have h9 := (hd'.r.next).gt hd'.r.nv; omega) ?_
                refine WC_skip ?_
                refine WQ_code ?_
                refine WC_region ?_
                refine WL_val rfl rfl rfl (R_add rfl rfl rfl (by omega)) ?_
                refine WL_val rfl rfl rfl (R_move rfl rfl) ?_
                refine WL_nil ?_
                refine WQ_nextF (⟨y.k + 1, setF y.f a.fd a.dir a.tm, y.now, d', z.o, z.ob, z.c, z.tl⟩) (⟨by dsimp only; omega, hd', rfl, by dsimp only; rw [hfin]; exact hold_not hr (by omega) (by omega) (by omega), hw, by dsimp only; omega⟩) (by dsimp only; omega) (Le.lq (by repeat (first | exact Le.nil | refine Le.cons rfl (by first | rfl | (congr 1; omega)) ?_))) (by repeat (first | exact Pushed.refl | refine Pushed.push rfl ?_)) rfl (by repeat (first | exact Pulls.nil | exact Pulls.all | (apply Pulls.cons; (repeat (first | exact Pull.head | apply Pull.tail))) | apply Pulls.skip))
            · refine WL_skip rfl rfl rfl ?_
              refine WL_skip rfl rfl rfl ?_
              refine WL_val rfl rfl rfl (R_pickF rfl rfl rfl) ?_
              refine WL_nil ?_
              refine WQ_code ?_
              refine WC_F rfl ?_
              refine WC_skip ?_
              refine WQ_code ?_
              refine WC_region ?_
              refine WL_val rfl rfl rfl (R_move rfl rfl) ?_
              refine WL_val rfl rfl rfl (R_assign rfl rfl) ?_
              refine WL_nil ?_
              refine WQ_code ?_
              refine WC_seq ?_
              refine WC_region ?_
              refine WL_val rfl rfl rfl (R_move rfl rfl) ?_
              refine WL_do rfl rfl rfl (D_call (dnext_ok d' hd') rfl rfl rfl rfl (by repeat (first | exact Pulls.nil | exact Pulls.all | (apply Pulls.cons; (repeat (first | exact Pull.head | apply Pull.tail))) | apply Pulls.skip))) ?_
              rintro _ _ ⟨_, ⟨rfl, rfl⟩, rfl⟩
              refine WL_val rfl rfl rfl (R_move rfl rfl) ?_
              refine WL_do rfl rfl rfl (D_call (dnow_ok d' hd') rfl rfl rfl rfl (by repeat (first | exact Pulls.nil | exact Pulls.all | (apply Pulls.cons; (repeat (first | exact Pull.head | apply Pull.tail))) | apply Pulls.skip))) ?_
              rintro _ _ ⟨_, ⟨rfl, rfl⟩, rfl⟩
              refine WL_val rfl rfl rfl (R_leq rfl rfl rfl) ?_
              refine WL_nil ?_
              refine WQ_code ?_
              refine WC_dF rfl (by have h9 := (hd'.r.next).gt hd'.r.nv; omega) ?_
              refine WC_skip ?_
              refine WQ_code ?_
              refine WC_region ?_
              refine WL_val rfl rfl rfl (R_add rfl rfl rfl (by omega)) ?_
              refine WL_val rfl rfl rfl (R_move rfl rfl) ?_
              refine WL_nil ?_
              refine WQ_nextF (⟨y.k + 1, setF y.f a.fd a.dir a.tm, y.now, d', z.o, z.ob, z.c, z.tl⟩) (⟨by dsimp only; omega, hd', rfl, by dsimp only; rw [hfin]; exact hold_not hr (by omega) (by omega) (by omega), hw, by dsimp only; omega⟩) (by dsimp only; omega) (Le.lq (by repeat (first | exact Le.nil | refine Le.cons rfl (by first | rfl | (congr 1; omega)) ?_))) (by repeat (first | exact Pushed.refl | refine Pushed.push rfl ?_)) rfl (by repeat (first | exact Pulls.nil | exact Pulls.all | (apply Pulls.cons; (repeat (first | exact Pull.head | apply Pull.tail))) | apply Pulls.skip))
          · refine WL_skip rfl rfl rfl ?_
            refine WL_skip rfl rfl rfl ?_
            refine WL_skip rfl rfl rfl ?_
            refine WL_skip rfl rfl rfl ?_
            refine WL_val rfl rfl rfl (R_pickF rfl rfl rfl) ?_
            refine WL_val rfl rfl rfl (R_boolNe rfl Try.underlying4 rfl rfl) ?_
            refine WL_set (s := 139) (v := .bool false) rfl (by first | (rw [show decide (spotE a.fd a.dir = 0 ∧ a.tm ≤ y.now) = decide ((a.tm : Int) ≤ (y.now : Int)) from decide_eq_decide.2 (by omega)]; simp; done) | (rw [show decide (spotE a.fd a.dir = 0 ∧ a.tm ≤ y.now) = false from decide_eq_false (by have := hy.r.nv; omega)]; rfl)) ?_
            refine WL_nil ?_
            refine WQ_code ?_
            refine WC_F rfl ?_
            refine WC_skip ?_
            refine WQ_code ?_
            refine WC_seq ?_
            refine WC_seq ?_
            refine WC_region ?_
            refine WL_val rfl rfl rfl (R_move rfl rfl) ?_
            refine WL_val rfl rfl rfl (R_notD rfl rfl) ?_
            refine WL_val rfl rfl rfl (R_move rfl rfl) ?_
            refine WL_splitD (s := 142) rfl (fun c11 => ?_) (fun c11 => ?_)
            · refine WL_val rfl rfl rfl (R_move rfl rfl) ?_
              refine WL_val rfl rfl rfl (R_neq rfl rfl rfl) ?_
              refine WL_val rfl rfl rfl (R_pickT rfl rfl rfl) ?_
              refine WL_nil ?_
              refine WQ_code ?_
              refine WC_dec rfl (fun c12 => ?_) (fun c12 => ?_)
              · refine WC_region ?_
                refine WL_val rfl rfl rfl (R_move rfl rfl) ?_
                refine WL_val rfl rfl rfl (R_loadA (vs := [_, _]) rfl ag24 rfl (by repeat (first | exact List.Mem.head _ | refine List.Mem.tail _ ?_)) rfl (by repeat (first | exact At.nil | refine At.cons ?_ | refine At.succ ?_))) ?_
                refine WL_val rfl rfl rfl (R_move rfl rfl) ?_
                refine WL_val rfl rfl rfl (R_build rfl zv40 pl40 rfl rfl) ?_
                refine WL_do rfl rfl rfl (D_buildSlice rfl si42 rfl rfl rfl) ?_
                rintro _ _ ⟨b10, rfl, rfl⟩
                refine WL_do rfl rfl rfl (D_append rfl si42 rfl (hw) (by repeat (first | exact Pull.head | apply Pull.tail)) rfl (by repeat (first | exact List.Mem.head _ | refine List.Mem.tail _ ?_)) ((by repeat (first | exact At.nil | refine At.cons ?_ | refine At.succ ?_) : At _ 0 [_, _, _])) (rfl) (rfl) (by omega) (by omega)) ?_
                rintro _ _ ⟨ob11, cap11, tl11, rfl, own11, rfl⟩
                rw [show z.o.flatMap encLp ++ [Value.int .i64 a.fd, .int .i64 a.dir, .int .u64 (a.tm : Int)] = (z.o ++ [(⟨a.fd, a.dir, a.tm⟩ : Lp)]).flatMap encLp from by rw [List.flatMap_append]; rfl, show z.o.length + 1 = (z.o ++ [(⟨a.fd, a.dir, a.tm⟩ : Lp)]).length from by rw [List.length_append]; rfl] at *
                refine WL_val rfl rfl rfl (R_assign rfl rfl) ?_
                refine WL_nil ?_
                refine WQ_code ?_
                refine WC_region ?_
                refine WL_val rfl rfl rfl (R_move rfl rfl) ?_
                refine WL_val rfl rfl rfl (R_assign rfl rfl) ?_
                refine WL_nil ?_
                refine WQ_code ?_
                refine WC_seq ?_
                refine WC_region ?_
                refine WL_val rfl rfl rfl (R_move rfl rfl) ?_
                refine WL_do rfl rfl rfl (D_call (dnext_ok d' hd') rfl rfl rfl rfl (by repeat (first | exact Pulls.nil | exact Pulls.all | (apply Pulls.cons; (repeat (first | exact Pull.head | apply Pull.tail))) | apply Pulls.skip))) ?_
                rintro _ _ ⟨_, ⟨rfl, rfl⟩, rfl⟩
                refine WL_val rfl rfl rfl (R_move rfl rfl) ?_
                refine WL_do rfl rfl rfl (D_call (dnow_ok d' hd') rfl rfl rfl rfl (by repeat (first | exact Pulls.nil | exact Pulls.all | (apply Pulls.cons; (repeat (first | exact Pull.head | apply Pull.tail))) | apply Pulls.skip))) ?_
                rintro _ _ ⟨_, ⟨rfl, rfl⟩, rfl⟩
                refine WL_val rfl rfl rfl (R_leq rfl rfl rfl) ?_
                refine WL_nil ?_
                refine WQ_code ?_
                refine WC_dF rfl (by have h9 := (hd'.r.next).gt hd'.r.nv; omega) ?_
                refine WC_skip ?_
                refine WQ_code ?_
                refine WC_region ?_
                refine WL_val rfl rfl rfl (R_add rfl rfl rfl (by omega)) ?_
                refine WL_val rfl rfl rfl (R_move rfl rfl) ?_
                refine WL_nil ?_
                refine WQ_nextF (⟨y.k + 1, setF y.f a.fd a.dir a.tm, y.now, d', z.o ++ [⟨a.fd, a.dir, a.tm⟩], ob11, cap11, tl11⟩) (⟨by dsimp only; omega, hd', rfl, by dsimp only; rw [hfin]; exact hold_put hr (by omega) (by omega) (by omega) (by omega), own11, by dsimp only; omega⟩) (by dsimp only; omega) (Le.lq (by repeat (first | exact Le.nil | refine Le.cons rfl (by first | rfl | (congr 1; omega)) ?_))) (by repeat (first | exact Pushed.refl | refine Pushed.push rfl ?_)) rfl (by repeat (first | exact Pulls.nil | exact Pulls.all | (apply Pulls.cons; (repeat (first | exact Pull.head | apply Pull.tail))) | apply Pulls.skip))
              · refine WC_skip ?_
                refine WQ_code ?_
                refine WC_region ?_
                refine WL_val rfl rfl rfl (R_move rfl rfl) ?_
                refine WL_val rfl rfl rfl (R_assign rfl rfl) ?_
                refine WL_nil ?_
                refine WQ_code ?_
                refine WC_seq ?_
                refine WC_region ?_
                refine WL_val rfl rfl rfl (R_move rfl rfl) ?_
                refine WL_do rfl rfl rfl (D_call (dnext_ok d' hd') rfl rfl rfl rfl (by repeat (first | exact Pulls.nil | exact Pulls.all | (apply Pulls.cons; (repeat (first | exact Pull.head | apply Pull.tail))) | apply Pulls.skip))) ?_
                rintro _ _ ⟨_, ⟨rfl, rfl⟩, rfl⟩
                refine WL_val rfl rfl rfl (R_move rfl rfl) ?_
                refine WL_do rfl rfl rfl (D_call (dnow_ok d' hd') rfl rfl rfl rfl (by repeat (first | exact Pulls.nil | exact Pulls.all | (apply Pulls.cons; (repeat (first | exact Pull.head | apply Pull.tail))) | apply Pulls.skip))) ?_
                rintro _ _ ⟨_, ⟨rfl, rfl⟩, rfl⟩
                refine WL_val rfl rfl rfl (R_leq rfl rfl rfl) ?_
                refine WL_nil ?_
                refine WQ_code ?_
                refine WC_dF rfl (by have h9 := (hd'.r.next).gt hd'.r.nv; omega) ?_
                refine WC_skip ?_
                refine WQ_code ?_
                refine WC_region ?_
                refine WL_val rfl rfl rfl (R_add rfl rfl rfl (by omega)) ?_
                refine WL_val rfl rfl rfl (R_move rfl rfl) ?_
                refine WL_nil ?_
                refine WQ_nextF (⟨y.k + 1, setF y.f a.fd a.dir a.tm, y.now, d', z.o, z.ob, z.c, z.tl⟩) (⟨by dsimp only; omega, hd', rfl, by dsimp only; rw [hfin]; exact hold_not hr (by omega) (by omega) (by omega), hw, by dsimp only; omega⟩) (by dsimp only; omega) (Le.lq (by repeat (first | exact Le.nil | refine Le.cons rfl (by first | rfl | (congr 1; omega)) ?_))) (by repeat (first | exact Pushed.refl | refine Pushed.push rfl ?_)) rfl (by repeat (first | exact Pulls.nil | exact Pulls.all | (apply Pulls.cons; (repeat (first | exact Pull.head | apply Pull.tail))) | apply Pulls.skip))
            · refine WL_skip rfl rfl rfl ?_
              refine WL_skip rfl rfl rfl ?_
              refine WL_val rfl rfl rfl (R_pickF rfl rfl rfl) ?_
              refine WL_nil ?_
              refine WQ_code ?_
              refine WC_F rfl ?_
              refine WC_skip ?_
              refine WQ_code ?_
              refine WC_region ?_
              refine WL_val rfl rfl rfl (R_move rfl rfl) ?_
              refine WL_val rfl rfl rfl (R_assign rfl rfl) ?_
              refine WL_nil ?_
              refine WQ_code ?_
              refine WC_seq ?_
              refine WC_region ?_
              refine WL_val rfl rfl rfl (R_move rfl rfl) ?_
              refine WL_do rfl rfl rfl (D_call (dnext_ok d' hd') rfl rfl rfl rfl (by repeat (first | exact Pulls.nil | exact Pulls.all | (apply Pulls.cons; (repeat (first | exact Pull.head | apply Pull.tail))) | apply Pulls.skip))) ?_
              rintro _ _ ⟨_, ⟨rfl, rfl⟩, rfl⟩
              refine WL_val rfl rfl rfl (R_move rfl rfl) ?_
              refine WL_do rfl rfl rfl (D_call (dnow_ok d' hd') rfl rfl rfl rfl (by repeat (first | exact Pulls.nil | exact Pulls.all | (apply Pulls.cons; (repeat (first | exact Pull.head | apply Pull.tail))) | apply Pulls.skip))) ?_
              rintro _ _ ⟨_, ⟨rfl, rfl⟩, rfl⟩
              refine WL_val rfl rfl rfl (R_leq rfl rfl rfl) ?_
              refine WL_nil ?_
              refine WQ_code ?_
              refine WC_dF rfl (by have h9 := (hd'.r.next).gt hd'.r.nv; omega) ?_
              refine WC_skip ?_
              refine WQ_code ?_
              refine WC_region ?_
              refine WL_val rfl rfl rfl (R_add rfl rfl rfl (by omega)) ?_
              refine WL_val rfl rfl rfl (R_move rfl rfl) ?_
              refine WL_nil ?_
              refine WQ_nextF (⟨y.k + 1, setF y.f a.fd a.dir a.tm, y.now, d', z.o, z.ob, z.c, z.tl⟩) (⟨by dsimp only; omega, hd', rfl, by dsimp only; rw [hfin]; exact hold_not hr (by omega) (by omega) (by omega), hw, by dsimp only; omega⟩) (by dsimp only; omega) (Le.lq (by repeat (first | exact Le.nil | refine Le.cons rfl (by first | rfl | (congr 1; omega)) ?_))) (by repeat (first | exact Pushed.refl | refine Pushed.push rfl ?_)) rfl (by repeat (first | exact Pulls.nil | exact Pulls.all | (apply Pulls.cons; (repeat (first | exact Pull.head | apply Pull.tail))) | apply Pulls.skip))
    · refine WC_region ?_
      refine WL_val rfl rfl rfl (R_eql rfl rfl rfl) ?_
      refine WL_val rfl rfl rfl (R_assign rfl rfl) ?_
      refine WL_nil ?_
      refine WQ_code ?_
      refine WC_dec rfl (fun c13 => ?_) (fun c13 => ?_)
      · refine WC_seq ?_
        refine WC_draw _ [(0, true), (1, true), (2, true), (3, true), (4, false), (5, false), (6, true)] followsMixed rfl rfl (by kernel_rfl) .all ?_
        refine WM_val rfl rfl rfl rfl (R_fieldAddr rfl fa61_1 rfl) ?_
        refine WM_val rfl rfl rfl rfl (R_loadA (vs := [_, _]) rfl ag24 rfl (by repeat (first | exact List.Mem.head _ | refine List.Mem.tail _ ?_)) rfl (by repeat (first | exact At.nil | refine At.cons ?_ | refine At.succ ?_))) ?_
        refine WM_val rfl rfl rfl rfl (R_fieldAddr rfl fa61_2 rfl) ?_
        refine WM_val rfl rfl rfl rfl (R_load rfl sc26 rfl (by repeat (first | exact List.Mem.head _ | refine List.Mem.tail _ ?_)) rfl) ?_
        refine WM_do rfl rfl rfl rfl (D_alloc rfl zv24) ?_
        rintro _ _ ⟨b12, rfl, rfl⟩
        refine ⟨⟨_, by repeat (first | exact Pulls.nil | exact Pulls.all | (apply Pulls.cons; (repeat (first | exact Pull.head | apply Pull.tail))) | apply Pulls.skip)⟩, ?_⟩
        refine WM_do0 rfl rfl rfl (D_store (vs := [_, _]) rfl Try.sizeOf24 rfl rfl rfl rfl rfl (by repeat (first | exact Pull.head | apply Pull.tail)) (by exact Nat.le_of_ble_eq_true rfl)) ?_
        rintro _ _ rfl
        refine ⟨⟨_, by repeat (first | exact Pulls.nil | exact Pulls.all | (apply Pulls.cons; (repeat (first | exact Pull.head | apply Pull.tail))) | apply Pulls.skip)⟩, ?_⟩
        refine WM_val rfl rfl rfl rfl (R_assign rfl rfl) ?_
        refine WM_nil ?_
        refine WQ_code ?_
        refine WC_seq ?_
        refine WC_seq ?_
        refine WC_region ?_
        refine WL_val rfl rfl rfl (R_move rfl rfl) ?_
        refine WL_val rfl rfl rfl (R_len rfl Try.underlying42 rfl) ?_
        refine WL_val rfl rfl rfl (R_move rfl rfl) ?_
        refine WL_nil ?_
        refine WQ_code ?_
        refine WC_block ?_
        refine WC_none 40 ?_
        refine WC_loopF (G := RsW) [14, 18, 72, 73, 74, 75, 76, 77, 78, 79, 80, 81, 82, 83, 84, 85, 86, 87, 88, 89, 90, 91, 92, 93, 94, 95, 96, 97] (fun z => z.j ≤ y.F.length ∧ z.o = restA a (y.F.take z.j) ∧ Own z.ob z.o.length z.c 3 (z.o.flatMap encLp) z.tl) (fun z => [(72, .int .i64 (z.j : Int)), (14, slV z.ob z.o.length z.c)]) (fun z => [⟨z.ob, cl (z.o.flatMap encLp ++ z.tl) 40⟩]) (fun z => y.F.length - z.j) (⟨0, [], none, 0, []⟩) (⟨Nat.zero_le _, rfl, Own.empty 3⟩) (Le.lq (by repeat (first | exact Le.nil | refine Le.cons rfl (by first | rfl | (congr 1; omega)) ?_))) (by repeat (first | exact Pulls.nil | exact Pulls.all | (apply Pulls.cons; (repeat (first | exact Pull.head | apply Pull.tail))) | apply Pulls.skip)) ?_
        rintro z ⟨hj, ho, hw⟩
        have hol : z.o.length ≤ 256 := by rw [ho]; exact Nat.le_trans (List.length_filter_le _ _) (by rw [List.length_take]; omega)
        refine WC_seq ?_
        refine WC_region ?_
        refine WL_val rfl rfl rfl (R_lss rfl rfl rfl) ?_
        refine WL_nil ?_
        refine WQ_code ?_
        refine WC_seq ?_
        refine WC_dec rfl (fun c14 => ?_) (fun c14 => ?_)
        · refine WC_skip ?_
          refine WQ_code ?_
          refine WC_seq ?_
          refine WC_block ?_
          refine WC_seq ?_
          refine WC_region ?_
          obtain ⟨x, hx⟩ := exE (T := y.F) (i := z.j) (by omega)
          obtain ⟨bx, hbx⟩ := own.some_of (by omega)
          rw [hbx]
          refine WL_val rfl rfl rfl (R_indexAddrN rfl Try.underlying42 Try.sizeOf40 rfl rfl (by omega)) ?_
          refine WL_val rfl rfl rfl (R_loadA (vs := [.int .i64 x.fd, .int .i64 x.dir, .int .u64 (x.at_ : Int)]) rfl ag40 rfl (by repeat (first | exact List.Mem.head _ | refine List.Mem.tail _ ?_)) rfl (fm_at0 encLp3 hx (j := 0) (vs := [.int .i64 x.fd, .int .i64 x.dir, .int .u64 (x.at_ : Int)]) (by repeat (first | exact At.nil | refine At.cons ?_ | refine At.succ ?_)) (by simp))) ?_
          refine WL_do rfl rfl rfl (D_alloc rfl zv40) ?_
          rintro _ _ ⟨b13, rfl, rfl⟩
          refine WL_do0 rfl rfl (D_store (vs := [_, _, _]) rfl Try.sizeOf40 rfl rfl rfl rfl rfl (by repeat (first | exact Pull.head | apply Pull.tail)) (by exact Nat.le_of_ble_eq_true rfl)) ?_
          rintro _ _ rfl
          refine WL_nil ?_
          refine WQ_code ?_
          refine WC_seq ?_
          refine WC_region ?_
          refine WL_val rfl rfl rfl (R_fieldAddr rfl fa40_0 rfl) ?_
          refine WL_val rfl rfl rfl (R_loadA (vs := [_, _]) rfl ag24 rfl (by repeat (first | exact List.Mem.head _ | refine List.Mem.tail _ ?_)) rfl (by repeat (first | exact At.nil | refine At.cons ?_ | refine At.succ ?_))) ?_
          refine WL_val rfl rfl rfl (R_loadA (vs := [_, _]) rfl ag24 rfl (by repeat (first | exact List.Mem.head _ | refine List.Mem.tail _ ?_)) rfl (by repeat (first | exact At.nil | refine At.cons ?_ | refine At.succ ?_))) ?_
          refine WL_val rfl rfl rfl (R_sne24 rfl rfl rfl rfl) ?_
          refine WL_val rfl rfl rfl (R_move rfl rfl) ?_
          refine WL_splitD (s := 80) rfl (fun c15 => ?_) (fun c15 => ?_)
          · refine WL_val rfl rfl rfl (R_fieldAddr rfl fa61_0 rfl) ?_
            refine WL_val rfl rfl rfl (R_load rfl sc3 rfl (by repeat (first | exact List.Mem.head _ | refine List.Mem.tail _ ?_)) rfl) ?_
            refine WL_val rfl rfl rfl (R_eql rfl rfl rfl) ?_
            refine WL_val rfl rfl rfl (R_move rfl rfl) ?_
            refine WL_splitD (s := 84) rfl (fun c16 => ?_) (fun c16 => ?_)
            · refine WL_skip rfl rfl rfl ?_
              refine WL_skip rfl rfl rfl ?_
              refine WL_skip rfl rfl rfl ?_
              refine WL_skip rfl rfl rfl ?_
              refine WL_skip rfl rfl rfl ?_
              refine WL_skip rfl rfl rfl ?_
              refine WL_val rfl rfl rfl (R_pickT rfl rfl rfl) ?_
              refine WL_val rfl rfl rfl (R_pickT rfl rfl rfl) ?_
              refine WL_nil ?_
              refine WQ_code ?_
              refine WC_T rfl ?_
              refine WC_region ?_
              refine WL_val rfl rfl rfl (R_move rfl rfl) ?_
              refine WL_val rfl rfl rfl (R_loadA (vs := [_, _, _]) rfl ag40 rfl (by repeat (first | exact List.Mem.head _ | refine List.Mem.tail _ ?_)) rfl (by repeat (first | exact At.nil | refine At.cons ?_ | refine At.succ ?_))) ?_
              refine WL_do rfl rfl rfl (D_buildSlice rfl si42 rfl rfl rfl) ?_
              rintro _ _ ⟨b14, rfl, rfl⟩
              refine WL_do rfl rfl rfl (D_append rfl si42 rfl (hw) (by repeat (first | exact Pull.head | apply Pull.tail)) rfl (by repeat (first | exact List.Mem.head _ | refine List.Mem.tail _ ?_)) ((by repeat (first | exact At.nil | refine At.cons ?_ | refine At.succ ?_) : At _ 0 [_, _, _])) (rfl) (rfl) (by omega) (by omega)) ?_
              rintro _ _ ⟨ob15, cap15, tl15, rfl, own15, rfl⟩
              rw [show z.o.flatMap encLp ++ [Value.int .i64 x.fd, .int .i64 x.dir, .int .u64 (x.at_ : Int)] = (z.o ++ [x]).flatMap encLp from by rw [List.flatMap_append]; rfl, show z.o.length + 1 = (z.o ++ [x]).length from by rw [List.length_append]; rfl] at *
              refine WL_val rfl rfl rfl (R_assign rfl rfl) ?_
              refine WL_nil ?_
              refine WQ_code ?_
              refine WC_region ?_
              refine WL_val rfl rfl rfl (R_add rfl rfl rfl (by omega)) ?_
              refine WL_val rfl rfl rfl (R_move rfl rfl) ?_
              refine WL_nil ?_
              refine WQ_nextF (⟨z.j + 1, z.o ++ [x], ob15, cap15, tl15⟩) (⟨by dsimp only; omega, by dsimp only; rw [tk_next hx, restA_snoc, if_pos (by unfold KeepP; omega), ho], own15⟩) (by dsimp only; omega) (Le.lq (by repeat (first | exact Le.nil | refine Le.cons rfl (by first | rfl | (congr 1; omega)) ?_))) (by repeat (first | exact Pushed.refl | refine Pushed.push rfl ?_)) rfl (by repeat (first | exact Pulls.nil | exact Pulls.all | (apply Pulls.cons; (repeat (first | exact Pull.head | apply Pull.tail))) | apply Pulls.skip))
            · refine WL_val rfl rfl rfl (R_fieldAddr rfl fa40_0 rfl) ?_
              refine WL_val rfl rfl rfl (R_fieldAddr rfl fa24_0 rfl) ?_
              refine WL_val rfl rfl rfl (R_load rfl sc3 rfl (by repeat (first | exact List.Mem.head _ | refine List.Mem.tail _ ?_)) rfl) ?_
              refine WL_val rfl rfl rfl (R_fieldAddr rfl fa24_0 rfl) ?_
              refine WL_val rfl rfl rfl (R_load rfl sc3 rfl (by repeat (first | exact List.Mem.head _ | refine List.Mem.tail _ ?_)) rfl) ?_
              refine WL_val rfl rfl rfl (R_neq rfl rfl rfl) ?_
              refine WL_val rfl rfl rfl (R_pickF rfl rfl rfl) ?_
              refine WL_val rfl rfl rfl (R_pickT rfl rfl rfl) ?_
              refine WL_nil ?_
              refine WQ_code ?_
              refine WC_dec rfl (fun c17 => ?_) (fun c17 => ?_)
              · refine WC_region ?_
                refine WL_val rfl rfl rfl (R_move rfl rfl) ?_
                refine WL_val rfl rfl rfl (R_loadA (vs := [_, _, _]) rfl ag40 rfl (by repeat (first | exact List.Mem.head _ | refine List.Mem.tail _ ?_)) rfl (by repeat (first | exact At.nil | refine At.cons ?_ | refine At.succ ?_))) ?_
                refine WL_do rfl rfl rfl (D_buildSlice rfl si42 rfl rfl rfl) ?_
                rintro _ _ ⟨b16, rfl, rfl⟩
                refine WL_do rfl rfl rfl (D_append rfl si42 rfl (hw) (by repeat (first | exact Pull.head | apply Pull.tail)) rfl (by repeat (first | exact List.Mem.head _ | refine List.Mem.tail _ ?_)) ((by repeat (first | exact At.nil | refine At.cons ?_ | refine At.succ ?_) : At _ 0 [_, _, _])) (rfl) (rfl) (by omega) (by omega)) ?_
                rintro _ _ ⟨ob17, cap17, tl17, rfl, own17, rfl⟩
                rw [show z.o.flatMap encLp ++ [Value.int .i64 x.fd, .int .i64 x.dir, .int .u64 (x.at_ : Int)] = (z.o ++ [x]).flatMap encLp from by rw [List.flatMap_append]; rfl, show z.o.length + 1 = (z.o ++ [x]).length from by rw [List.length_append]; rfl] at *
                refine WL_val rfl rfl rfl (R_assign rfl rfl) ?_
                refine WL_nil ?_
                refine WQ_code ?_
                refine WC_region ?_
                refine WL_val rfl rfl rfl (R_add rfl rfl rfl (by omega)) ?_
                refine WL_val rfl rfl rfl (R_move rfl rfl) ?_
                refine WL_nil ?_
                refine WQ_nextF (⟨z.j + 1, z.o ++ [x], ob17, cap17, tl17⟩) (⟨by dsimp only; omega, by dsimp only; rw [tk_next hx, restA_snoc, if_pos (by unfold KeepP; omega), ho], own17⟩) (by dsimp only; omega) (Le.lq (by repeat (first | exact Le.nil | refine Le.cons rfl (by first | rfl | (congr 1; omega)) ?_))) (by repeat (first | exact Pushed.refl | refine Pushed.push rfl ?_)) rfl (by repeat (first | exact Pulls.nil | exact Pulls.all | (apply Pulls.cons; (repeat (first | exact Pull.head | apply Pull.tail))) | apply Pulls.skip))
              · refine WC_skip ?_
                refine WQ_code ?_
                refine WC_region ?_
                refine WL_val rfl rfl rfl (R_add rfl rfl rfl (by omega)) ?_
                refine WL_val rfl rfl rfl (R_move rfl rfl) ?_
                refine WL_nil ?_
                refine WQ_nextF (⟨z.j + 1, z.o, z.ob, z.c, z.tl⟩) (⟨by dsimp only; omega, by dsimp only; rw [tk_next hx, restA_snoc, if_neg (by unfold KeepP; omega), List.append_nil, ho], hw⟩) (by dsimp only; omega) (Le.lq (by repeat (first | exact Le.nil | refine Le.cons rfl (by first | rfl | (congr 1; omega)) ?_))) (by repeat (first | exact Pushed.refl | refine Pushed.push rfl ?_)) rfl (by repeat (first | exact Pulls.nil | exact Pulls.all | (apply Pulls.cons; (repeat (first | exact Pull.head | apply Pull.tail))) | apply Pulls.skip))
          · refine WL_skip rfl rfl rfl ?_
            refine WL_skip rfl rfl rfl ?_
            refine WL_skip rfl rfl rfl ?_
            refine WL_skip rfl rfl rfl ?_
            refine WL_skip rfl rfl rfl ?_
            refine WL_skip rfl rfl rfl ?_
            refine WL_skip rfl rfl rfl ?_
            refine WL_skip rfl rfl rfl ?_
            refine WL_skip rfl rfl rfl ?_
            refine WL_skip rfl rfl rfl ?_
            refine WL_skip rfl rfl rfl ?_
            refine WL_val rfl rfl rfl (R_pickF rfl rfl rfl) ?_
            refine WL_nil ?_
            refine WQ_code ?_
            refine WC_F rfl ?_
            refine WC_skip ?_
            refine WQ_code ?_
            refine WC_region ?_
            refine WL_val rfl rfl rfl (R_add rfl rfl rfl (by omega)) ?_
            refine WL_val rfl rfl rfl (R_move rfl rfl) ?_
            refine WL_nil ?_
            refine WQ_nextF (⟨z.j + 1, z.o, z.ob, z.c, z.tl⟩) (⟨by dsimp only; omega, by dsimp only; rw [tk_next hx, restA_snoc, if_neg (by unfold KeepP; omega), List.append_nil, ho], hw⟩) (by dsimp only; omega) (Le.lq (by repeat (first | exact Le.nil | refine Le.cons rfl (by first | rfl | (congr 1; omega)) ?_))) (by repeat (first | exact Pushed.refl | refine Pushed.push rfl ?_)) rfl (by repeat (first | exact Pulls.nil | exact Pulls.all | (apply Pulls.cons; (repeat (first | exact Pull.head | apply Pull.tail))) | apply Pulls.skip))
        · have hfin : z.o = restA a y.F := by rw [ho, List.take_of_length_le (by omega)]
          refine WC_exit ?_
          refine WQ_code ?_
          refine WC_seq ?_
          refine WC_seq ?_
          refine WC_region ?_
          refine WL_val rfl rfl rfl (R_fieldAddr rfl fa61_0 rfl) ?_
          refine WL_val rfl rfl rfl (R_load rfl sc3 rfl (by repeat (first | exact List.Mem.head _ | refine List.Mem.tail _ ?_)) rfl) ?_
          refine WL_val rfl rfl rfl (R_eql rfl rfl rfl) ?_
          refine WL_nil ?_
          refine WQ_code ?_
          refine WC_dT rfl (by omega) ?_
          refine WC_seq ?_
          refine WC_seq ?_
          refine WC_drawR (dlH y.now y.d) [(0, true), (1, true), (2, true), (5, true), (6, true), (7, true), (3, false), (4, true), (8, true), (9, true), (10, true), (11, true), (12, true), (13, true)] followsMixed rfl rfl (by kernel_rfl) (by repeat (first | exact Pulls.nil | exact Pulls.all | (apply Pulls.cons; (repeat (first | exact Pull.head | apply Pull.tail))) | apply Pulls.skip)) ?_
          refine WM_val rfl rfl rfl rfl (R_move rfl rfl) ?_
          refine WM_val rfl rfl rfl rfl (R_fieldAddr rfl fa24_0 rfl) ?_
          refine WM_val rfl rfl rfl rfl (R_load rfl sc3 rfl (by repeat (first | exact List.Mem.head _ | refine List.Mem.tail _ ?_)) rfl) ?_
          refine WM_val rfl rfl rfl rfl (R_fieldAddr rfl fa24_0 rfl) ?_
          refine WM_val rfl rfl rfl rfl (R_load rfl sc3 rfl (by repeat (first | exact List.Mem.head _ | refine List.Mem.tail _ ?_)) rfl) ?_
          refine WM_val rfl rfl rfl rfl (R_geq rfl rfl rfl) ?_
          refine WM_do rfl rfl rfl rfl (D_call (dclear_any y.d hy a.fd (by omega)) rfl rfl rfl rfl (by repeat (first | exact Pulls.nil | exact Pulls.all | (apply Pulls.cons; (repeat (first | exact Pull.head | apply Pull.tail))) | apply Pulls.skip))) ?_
          rintro _ _ ⟨_, ⟨d', rfl, rfl, hdp, hdn, hd'⟩, rfl⟩
          refine ⟨⟨_, by repeat (first | exact Pulls.nil | exact Pulls.all | (apply Pulls.cons; (repeat (first | exact Pull.head | apply Pull.tail))) | apply Pulls.skip)⟩, ?_⟩
          rw [← hdp]
          refine WM_val rfl rfl rfl rfl (R_eql rfl rfl rfl) ?_
          refine WM_val rfl rfl rfl rfl (R_move rfl rfl) ?_
          refine WM_splitD (s := 109) rfl (fun c18 => ?_) (fun c18 => ?_)
          · refine WM_val rfl rfl rfl rfl (R_fieldAddr rfl fa24_0 rfl) ?_
            refine WM_val rfl rfl rfl rfl (R_load rfl sc3 rfl (by repeat (first | exact List.Mem.head _ | refine List.Mem.tail _ ?_)) rfl) ?_
            refine WM_val rfl rfl rfl rfl (R_lss rfl rfl rfl) ?_
            refine WM_val rfl rfl rfl rfl (R_pickT rfl rfl rfl) ?_
            refine WM_val rfl rfl rfl rfl (R_boolNe rfl Try.underlying4 rfl rfl) ?_
            refine WM_set (s := 114) (v := .bool false) rfl (by first | (rw [fileE_T (by omega)]; simp; done) | (rw [fileE_F (by omega)]; rfl)) ?_
            refine WM_nil ?_
            refine WQ_code ?_
            refine WC_F rfl ?_
            refine WC_skip ?_
            refine WQ_code ?_
            refine WC_seq ?_
            refine WC_region ?_
            refine WL_val rfl rfl rfl (R_move rfl rfl) ?_
            refine WL_val rfl rfl rfl (R_assign rfl rfl) ?_
            refine WL_nil ?_
            refine WQ_code ?_
            refine WC_exit ?_
            refine WQ_code ?_
            refine WC_region ?_
            refine WL_val rfl rfl rfl (R_add rfl rfl rfl (by omega)) ?_
            refine WL_val rfl rfl rfl (R_move rfl rfl) ?_
            refine WL_nil ?_
            refine WQ_nextF (⟨y.k + 1, clearF y.f a.fd, y.now, d', z.o, z.ob, z.c, z.tl⟩) (⟨by dsimp only; omega, hd', rfl, by dsimp only; rw [hfin]; exact hold_clear hr (by omega), hw, by dsimp only; omega⟩) (by dsimp only; omega) (Le.lq (by repeat (first | exact Le.nil | refine Le.cons rfl (by first | rfl | (congr 1; omega)) ?_))) (by repeat (first | exact Pushed.refl | refine Pushed.push rfl ?_)) rfl (by repeat (first | exact Pulls.nil | exact Pulls.all | (apply Pulls.cons; (repeat (first | exact Pull.head | apply Pull.tail))) | apply Pulls.skip))
          · refine WM_skip rfl rfl rfl rfl ?_
            refine WM_skip rfl rfl rfl rfl ?_
            refine WM_skip rfl rfl rfl rfl ?_
            refine WM_val rfl rfl rfl rfl (R_pickF rfl rfl rfl) ?_
            refine WM_val rfl rfl rfl rfl (R_boolNe rfl Try.underlying4 rfl rfl) ?_
            refine WM_set (s := 114) (v := .bool false) rfl (by first | (rw [fileE_T (by omega)]; simp; done) | (rw [fileE_F (by omega)]; rfl)) ?_
            refine WM_nil ?_
            refine WQ_code ?_
            refine WC_F rfl ?_
            refine WC_skip ?_
            refine WQ_code ?_
            refine WC_seq ?_
            refine WC_region ?_
            refine WL_val rfl rfl rfl (R_move rfl rfl) ?_
            refine WL_val rfl rfl rfl (R_assign rfl rfl) ?_
            refine WL_nil ?_
            refine WQ_code ?_
            refine WC_exit ?_
            refine WQ_code ?_
            refine WC_region ?_
            refine WL_val rfl rfl rfl (R_add rfl rfl rfl (by omega)) ?_
            refine WL_val rfl rfl rfl (R_move rfl rfl) ?_
            refine WL_nil ?_
            refine WQ_nextF (⟨y.k + 1, clearF y.f a.fd, y.now, d', z.o, z.ob, z.c, z.tl⟩) (⟨by dsimp only; omega, hd', rfl, by dsimp only; rw [hfin]; exact hold_clear hr (by omega), hw, by dsimp only; omega⟩) (by dsimp only; omega) (Le.lq (by repeat (first | exact Le.nil | refine Le.cons rfl (by first | rfl | (congr 1; omega)) ?_))) (by repeat (first | exact Pushed.refl | refine Pushed.push rfl ?_)) rfl (by repeat (first | exact Pulls.nil | exact Pulls.all | (apply Pulls.cons; (repeat (first | exact Pull.head | apply Pull.tail))) | apply Pulls.skip))
      · refine WC_seq ?_
        refine WC_region ?_
        refine WL_val rfl rfl rfl (R_eql rfl rfl rfl) ?_
        refine WL_val rfl rfl rfl (R_assign rfl rfl) ?_
        refine WL_nil ?_
        refine WQ_code ?_
        refine WC_dec rfl (fun c19 => ?_) (fun c19 => ?_)
        · refine WC_seq ?_
          refine WC_region ?_
          refine WL_val rfl rfl rfl (R_move rfl rfl) ?_
          refine WL_val rfl rfl rfl (R_fieldAddr rfl fa61_2 rfl) ?_
          refine WL_val rfl rfl rfl (R_load rfl sc26 rfl (by repeat (first | exact List.Mem.head _ | refine List.Mem.tail _ ?_)) rfl) ?_
          refine WL_do rfl rfl rfl (D_call (dadv_any y.d hy a.tm htm) rfl rfl rfl rfl (by repeat (first | exact Pulls.nil | exact Pulls.all | (apply Pulls.cons; (repeat (first | exact Pull.head | apply Pull.tail))) | apply Pulls.skip))) ?_
          rintro _ _ ⟨_, ⟨l1, o1, c1, t1, d', rfl, own1, hl1, hl9, rfl, hdp, hdn, hd'⟩, rfl⟩
          rw [← hdp]
          refine WL_val rfl rfl rfl (R_move rfl rfl) ?_
          refine WL_val rfl rfl rfl (R_extract rfl rfl rfl) ?_
          refine WL_val rfl rfl rfl (R_extract rfl rfl rfl) ?_
          refine WL_val rfl rfl rfl (R_assign rfl rfl) ?_
          refine WL_val rfl rfl rfl (R_assign rfl rfl) ?_
          refine WL_nil ?_
          refine WQ_code ?_
          refine WC_seq ?_
          refine WC_seq ?_
          refine WC_region ?_
          refine WL_val rfl rfl rfl (R_move rfl rfl) ?_
          refine WL_val rfl rfl rfl (R_neq rfl rfl rfl) ?_
          refine WL_nil ?_
          refine WQ_code ?_
          refine WC_dec rfl (fun c20 => ?_) (fun c20 => ?_)
          · have hadv : advN y.now a.tm = y.now := by unfold advN; rw [if_neg (by omega)]
            refine WC_exit ?_
            refine WQ_code ?_
            refine WC_region ?_
            refine WL_val rfl rfl rfl (R_add rfl rfl rfl (by omega)) ?_
            refine WL_val rfl rfl rfl (R_move rfl rfl) ?_
            refine WL_nil ?_
            refine WQ_nextF (⟨y.k + 1, y.f, advN y.now a.tm, d', y.F, y.ob, y.c, y.tl⟩) (⟨by dsimp only; omega, hd', rfl, by dsimp only; rw [hadv]; exact hr, own, by dsimp only; omega⟩) (by dsimp only; omega) (Le.lq (by repeat (first | exact Le.nil | refine Le.cons rfl (by first | rfl | (congr 1; omega)) ?_))) (by repeat (first | exact Pushed.refl | refine Pushed.push rfl ?_)) rfl (by repeat (first | exact Pulls.nil | exact Pulls.all | (apply Pulls.cons; (repeat (first | exact Pull.head | apply Pull.tail))) | apply Pulls.skip))
          · have hae : advE y.now a.tm = 0 := by omega
            obtain ⟨hto1, hto2⟩ := adv_ok hae
            replace hto2 : a.tm < 18446744073709551615 := by omega
            have hadv : advN y.now a.tm = a.tm := by unfold advN; rw [if_pos hae]
            have hlp : IsLap y.f y.now a.tm l1 := by unfold LapR at hl1; rw [if_pos hae] at hl1; exact hl1
            refine WC_skip ?_
            refine WQ_code ?_
            refine WC_seq ?_
            refine WC_seq ?_
            refine WC_region ?_
            refine WL_val rfl rfl rfl (R_move rfl rfl) ?_
            refine WL_val rfl rfl rfl (R_len rfl Try.underlying42 rfl) ?_
            refine WL_val rfl rfl rfl (R_move rfl rfl) ?_
            refine WL_nil ?_
            refine WQ_code ?_
            refine WC_block ?_
            refine WC_loopF (G := Nat) [8, 24, 25, 27, 166, 167, 168, 169, 170, 171, 172, 173, 174, 175, 176, 177, 178, 179, 180, 181, 182, 183, 184, 185, 186, 187, 188, 189, 190, 191, 192] (fun j => j ≤ l1.length) (fun j => [(166, .int .i64 (j : Int))]) (fun j => []) (fun j => l1.length - j) (0) (Nat.zero_le _) (Le.lq (by repeat (first | exact Le.nil | refine Le.cons rfl (by first | rfl | (congr 1; omega)) ?_))) (by repeat (first | exact Pulls.nil | exact Pulls.all | (apply Pulls.cons; (repeat (first | exact Pull.head | apply Pull.tail))) | apply Pulls.skip)) ?_
            rintro j hj
            refine WC_seq ?_
            refine WC_region ?_
            refine WL_val rfl rfl rfl (R_lss rfl rfl rfl) ?_
            refine WL_nil ?_
            refine WQ_code ?_
            refine WC_seq ?_
            refine WC_dec rfl (fun c21 => ?_) (fun c21 => ?_)
            · refine WC_skip ?_
              refine WQ_code ?_
              refine WC_seq ?_
              refine WC_block ?_
              refine WC_seq ?_
              refine WC_region ?_
              obtain ⟨x, hx⟩ := exE (T := l1) (i := j) (by omega)
              obtain ⟨bx, hbx⟩ := own1.some_of (by omega)
              rw [hbx]
              obtain ⟨hxF, hxle⟩ := got_in hr hto2 hlp (List.mem_of_getElem? hx)
              refine WL_val rfl rfl rfl (R_indexAddrN rfl Try.underlying42 Try.sizeOf40 rfl rfl (by omega)) ?_
              refine WL_val rfl rfl rfl (R_loadA (vs := [.int .i64 x.fd, .int .i64 x.dir, .int .u64 (x.at_ : Int)]) rfl ag40 rfl (by repeat (first | exact List.Mem.head _ | refine List.Mem.tail _ ?_)) rfl (fm_at0 encLp3 hx (j := 0) (vs := [.int .i64 x.fd, .int .i64 x.dir, .int .u64 (x.at_ : Int)]) (by repeat (first | exact At.nil | refine At.cons ?_ | refine At.succ ?_)) (by simp))) ?_
              refine WL_do rfl rfl rfl (D_alloc rfl zv40) ?_
              rintro _ _ ⟨b18, rfl, rfl⟩
              refine WL_do0 rfl rfl (D_store (vs := [_, _, _]) rfl Try.sizeOf40 rfl rfl rfl rfl rfl (by repeat (first | exact Pull.head | apply Pull.tail)) (by exact Nat.le_of_ble_eq_true rfl)) ?_
              rintro _ _ rfl
              refine WL_nil ?_
              refine WQ_code ?_
              refine WC_seq ?_
              refine WC_region ?_
              refine WL_val rfl rfl rfl (R_assign rfl rfl) ?_
              refine WL_nil ?_
              refine WQ_code ?_
              refine WC_seq ?_
              refine WC_seq ?_
              refine WC_region ?_
              refine WL_val rfl rfl rfl (R_move rfl rfl) ?_
              refine WL_val rfl rfl rfl (R_len rfl Try.underlying42 rfl) ?_
              refine WL_val rfl rfl rfl (R_move rfl rfl) ?_
              refine WL_nil ?_
              refine WQ_code ?_
              refine WC_block ?_
              refine WC_loopF (G := InW) [25, 27, 172, 173, 174, 175, 176, 177, 178, 179, 180, 181, 182] (fun w => w.j ≤ y.F.length ∧ (w.b = true ↔ x ∈ y.F.take w.j)) (fun w => [(172, .int .i64 (w.j : Int)), (25, .bool w.b)]) (fun w => []) (fun w => y.F.length - w.j) (⟨0, false⟩) (⟨Nat.zero_le _, by simp⟩) (Le.lq (by repeat (first | exact Le.nil | refine Le.cons rfl (by first | rfl | (congr 1; omega)) ?_))) (by repeat (first | exact Pulls.nil | exact Pulls.all | (apply Pulls.cons; (repeat (first | exact Pull.head | apply Pull.tail))) | apply Pulls.skip)) ?_
              rintro w ⟨hwj, hwb⟩
              refine WC_seq ?_
              refine WC_region ?_
              refine WL_val rfl rfl rfl (R_lss rfl rfl rfl) ?_
              refine WL_nil ?_
              refine WQ_code ?_
              refine WC_seq ?_
              refine WC_dec rfl (fun c22 => ?_) (fun c22 => ?_)
              · refine WC_skip ?_
                refine WQ_code ?_
                refine WC_seq ?_
                refine WC_block ?_
                refine WC_seq ?_
                refine WC_region ?_
                obtain ⟨u, hu⟩ := exE (T := y.F) (i := w.j) (by omega)
                obtain ⟨bu, hbu⟩ := own.some_of (by omega)
                rw [hbu]
                refine WL_val rfl rfl rfl (R_indexAddrN rfl Try.underlying42 Try.sizeOf40 rfl rfl (by omega)) ?_
                refine WL_val rfl rfl rfl (R_loadA (vs := [.int .i64 u.fd, .int .i64 u.dir, .int .u64 (u.at_ : Int)]) rfl ag40 rfl (by repeat (first | exact List.Mem.head _ | refine List.Mem.tail _ ?_)) rfl (fm_at0 encLp3 hu (j := 0) (vs := [.int .i64 u.fd, .int .i64 u.dir, .int .u64 (u.at_ : Int)]) (by repeat (first | exact At.nil | refine At.cons ?_ | refine At.succ ?_)) (by simp))) ?_
                refine WL_do rfl rfl rfl (D_alloc rfl zv40) ?_
                rintro _ _ ⟨b19, rfl, rfl⟩
                refine WL_do0 rfl rfl (D_store (vs := [_, _, _]) rfl Try.sizeOf40 rfl rfl rfl rfl rfl (by repeat (first | exact Pull.head | apply Pull.tail)) (by exact Nat.le_of_ble_eq_true rfl)) ?_
                rintro _ _ rfl
                refine WL_nil ?_
                refine WQ_code ?_
                refine WC_region ?_
                refine WL_val rfl rfl rfl (R_move rfl rfl) ?_
                refine WL_val rfl rfl rfl (R_move rfl rfl) ?_
                refine WL_split (s := 177) rfl (fun c23 => ?_) (fun c23 => ?_)
                · refine WL_skip rfl rfl rfl ?_
                  refine WL_skip rfl rfl rfl ?_
                  refine WL_skip rfl rfl rfl ?_
                  refine WL_val rfl rfl rfl (R_pickT rfl rfl rfl) ?_
                  refine WL_val rfl rfl rfl (R_assign rfl rfl) ?_
                  refine WL_nil ?_
                  refine WQ_code ?_
                  refine WC_region ?_
                  refine WL_val rfl rfl rfl (R_add rfl rfl rfl (by omega)) ?_
                  refine WL_val rfl rfl rfl (R_move rfl rfl) ?_
                  refine WL_nil ?_
                  refine WQ_nextF (⟨w.j + 1, true⟩) (⟨by dsimp only; omega, by dsimp only; rw [tk_next hu, List.mem_append]; exact ⟨fun _ => .inl (hwb.1 (by assumption)), fun _ => rfl⟩⟩) (by dsimp only; omega) (Le.lq (by repeat (first | exact Le.nil | refine Le.cons rfl (by first | rfl | (congr 1; omega)) ?_))) (by repeat (first | exact Pushed.refl | refine Pushed.push rfl ?_)) rfl (by repeat (first | exact Pulls.nil | exact Pulls.all | (apply Pulls.cons; (repeat (first | exact Pull.head | apply Pull.tail))) | apply Pulls.skip))
                · refine WL_val rfl rfl rfl (R_loadA (vs := [_, _, _]) rfl ag40 rfl (by repeat (first | exact List.Mem.head _ | refine List.Mem.tail _ ?_)) rfl (by repeat (first | exact At.nil | refine At.cons ?_ | refine At.succ ?_))) ?_
                  refine WL_val rfl rfl rfl (R_loadA (vs := [_, _, _]) rfl ag40 rfl (by repeat (first | exact List.Mem.head _ | refine List.Mem.tail _ ?_)) rfl (by repeat (first | exact At.nil | refine At.cons ?_ | refine At.succ ?_))) ?_
                  refine WL_val rfl rfl rfl (R_seq40 rfl rfl rfl rfl) ?_
                  refine WL_val rfl rfl rfl (R_pickF rfl rfl rfl) ?_
                  refine WL_val rfl rfl rfl (R_assign rfl rfl) ?_
                  refine WL_nil ?_
                  refine WQ_code ?_
                  refine WC_region ?_
                  refine WL_val rfl rfl rfl (R_add rfl rfl rfl (by omega)) ?_
                  refine WL_val rfl rfl rfl (R_move rfl rfl) ?_
                  refine WL_nil ?_
                  refine WQ_nextF (⟨w.j + 1, decide (x.fd = u.fd ∧ x.dir = u.dir ∧ (x.at_ : Int) = (u.at_ : Int))⟩) (⟨by dsimp only; omega, by dsimp only; rw [tk_next hu, List.mem_append, List.mem_singleton, decide_eq_true_eq, lp_eqI]; exact ⟨fun h9 => .inr h9, fun h9 => h9.resolve_left (fun h8 => by have := hwb.2 h8; simp_all)⟩⟩) (by dsimp only; omega) (Le.lq (by repeat (first | exact Le.nil | refine Le.cons rfl (by first | rfl | (congr 1; omega)) ?_))) (by repeat (first | exact Pushed.refl | refine Pushed.push rfl ?_)) rfl (by repeat (first | exact Pulls.nil | exact Pulls.all | (apply Pulls.cons; (repeat (first | exact Pull.head | apply Pull.tail))) | apply Pulls.skip))
              · have hbt : w.b = true := hwb.2 (by rw [List.take_of_length_le (by omega)]; exact hxF)
                refine WC_exit ?_
                refine WQ_code ?_
                refine WC_seq ?_
                refine WC_region ?_
                refine WL_val rfl rfl rfl (R_move rfl rfl) ?_
                refine WL_set (s := 183) (v := .bool true) rfl (by rw [hbt]) ?_
                refine WL_val rfl rfl rfl (R_not rfl rfl) ?_
                refine WL_val rfl rfl rfl (R_move rfl rfl) ?_
                refine WL_val rfl rfl rfl (R_fieldAddr rfl fa40_1 rfl) ?_
                refine WL_val rfl rfl rfl (R_load rfl sc26 rfl (by repeat (first | exact List.Mem.head _ | refine List.Mem.tail _ ?_)) rfl) ?_
                refine WL_val rfl rfl rfl (R_fieldAddr rfl fa61_2 rfl) ?_
                refine WL_val rfl rfl rfl (R_load rfl sc26 rfl (by repeat (first | exact List.Mem.head _ | refine List.Mem.tail _ ?_)) rfl) ?_
                refine WL_val rfl rfl rfl (R_gtr rfl rfl rfl) ?_
                refine WL_val rfl rfl rfl (R_pickF rfl rfl rfl) ?_
                refine WL_nil ?_
                refine WQ_code ?_
                refine WC_dF rfl (by omega) ?_
                refine WC_skip ?_
                refine WQ_code ?_
                refine WC_region ?_
                refine WL_val rfl rfl rfl (R_add rfl rfl rfl (by omega)) ?_
                refine WL_val rfl rfl rfl (R_move rfl rfl) ?_
                refine WL_nil ?_
                refine WQ_nextF (j + 1) (by omega) (by omega) (Le.lq (by repeat (first | exact Le.nil | refine Le.cons rfl (by first | rfl | (congr 1; omega)) ?_))) (by repeat (first | exact Pushed.refl | refine Pushed.push rfl ?_)) rfl (by repeat (first | exact Pulls.nil | exact Pulls.all | (apply Pulls.cons; (repeat (first | exact Pull.head | apply Pull.tail))) | apply Pulls.skip))
            · refine WC_exit ?_
              refine WQ_code ?_
              refine WC_seq ?_
              refine WC_seq ?_
              refine WC_region ?_
              refine WL_val rfl rfl rfl (R_move rfl rfl) ?_
              refine WL_val rfl rfl rfl (R_len rfl Try.underlying42 rfl) ?_
              refine WL_val rfl rfl rfl (R_move rfl rfl) ?_
              refine WL_nil ?_
              refine WQ_code ?_
              refine WC_block ?_
              refine WC_none 40 ?_
              refine WC_loopF (G := RsW) [14, 29, 195, 196, 197, 198, 199, 200, 201, 202, 203, 204, 205, 206, 207, 208] (fun z => z.j ≤ y.F.length ∧ z.o = laterL a.tm (y.F.take z.j) ∧ Own z.ob z.o.length z.c 3 (z.o.flatMap encLp) z.tl) (fun z => [(195, .int .i64 (z.j : Int)), (14, slV z.ob z.o.length z.c)]) (fun z => [⟨z.ob, cl (z.o.flatMap encLp ++ z.tl) 40⟩]) (fun z => y.F.length - z.j) (⟨0, [], none, 0, []⟩) (⟨Nat.zero_le _, rfl, Own.empty 3⟩) (Le.lq (by repeat (first | exact Le.nil | refine Le.cons rfl (by first | rfl | (congr 1; omega)) ?_))) (by repeat (first | exact Pulls.nil | exact Pulls.all | (apply Pulls.cons; (repeat (first | exact Pull.head | apply Pull.tail))) | apply Pulls.skip)) ?_
              rintro z ⟨hj, ho, hw⟩
              have hol : z.o.length ≤ 256 := by rw [ho]; exact Nat.le_trans (List.length_filter_le _ _) (by rw [List.length_take]; omega)
              refine WC_seq ?_
              refine WC_region ?_
              refine WL_val rfl rfl rfl (R_lss rfl rfl rfl) ?_
              refine WL_nil ?_
              refine WQ_code ?_
              refine WC_seq ?_
              refine WC_dec rfl (fun c24 => ?_) (fun c24 => ?_)
              · refine WC_skip ?_
                refine WQ_code ?_
                refine WC_seq ?_
                refine WC_block ?_
                refine WC_seq ?_
                refine WC_region ?_
                obtain ⟨x, hx⟩ := exE (T := y.F) (i := z.j) (by omega)
                obtain ⟨bx, hbx⟩ := own.some_of (by omega)
                rw [hbx]
                refine WL_val rfl rfl rfl (R_indexAddrN rfl Try.underlying42 Try.sizeOf40 rfl rfl (by omega)) ?_
                refine WL_val rfl rfl rfl (R_loadA (vs := [.int .i64 x.fd, .int .i64 x.dir, .int .u64 (x.at_ : Int)]) rfl ag40 rfl (by repeat (first | exact List.Mem.head _ | refine List.Mem.tail _ ?_)) rfl (fm_at0 encLp3 hx (j := 0) (vs := [.int .i64 x.fd, .int .i64 x.dir, .int .u64 (x.at_ : Int)]) (by repeat (first | exact At.nil | refine At.cons ?_ | refine At.succ ?_)) (by simp))) ?_
                refine WL_do rfl rfl rfl (D_alloc rfl zv40) ?_
                rintro _ _ ⟨b20, rfl, rfl⟩
                refine WL_do0 rfl rfl (D_store (vs := [_, _, _]) rfl Try.sizeOf40 rfl rfl rfl rfl rfl (by repeat (first | exact Pull.head | apply Pull.tail)) (by exact Nat.le_of_ble_eq_true rfl)) ?_
                rintro _ _ rfl
                refine WL_nil ?_
                refine WQ_code ?_
                refine WC_seq ?_
                refine WC_region ?_
                refine WL_val rfl rfl rfl (R_fieldAddr rfl fa40_1 rfl) ?_
                refine WL_val rfl rfl rfl (R_load rfl sc26 rfl (by repeat (first | exact List.Mem.head _ | refine List.Mem.tail _ ?_)) rfl) ?_
                refine WL_val rfl rfl rfl (R_fieldAddr rfl fa61_2 rfl) ?_
                refine WL_val rfl rfl rfl (R_load rfl sc26 rfl (by repeat (first | exact List.Mem.head _ | refine List.Mem.tail _ ?_)) rfl) ?_
                refine WL_val rfl rfl rfl (R_gtr rfl rfl rfl) ?_
                refine WL_nil ?_
                refine WQ_code ?_
                refine WC_dec rfl (fun c25 => ?_) (fun c25 => ?_)
                · refine WC_region ?_
                  refine WL_val rfl rfl rfl (R_move rfl rfl) ?_
                  refine WL_val rfl rfl rfl (R_loadA (vs := [_, _, _]) rfl ag40 rfl (by repeat (first | exact List.Mem.head _ | refine List.Mem.tail _ ?_)) rfl (by repeat (first | exact At.nil | refine At.cons ?_ | refine At.succ ?_))) ?_
                  refine WL_do rfl rfl rfl (D_buildSlice rfl si42 rfl rfl rfl) ?_
                  rintro _ _ ⟨b21, rfl, rfl⟩
                  refine WL_do rfl rfl rfl (D_append rfl si42 rfl (hw) (by repeat (first | exact Pull.head | apply Pull.tail)) rfl (by repeat (first | exact List.Mem.head _ | refine List.Mem.tail _ ?_)) ((by repeat (first | exact At.nil | refine At.cons ?_ | refine At.succ ?_) : At _ 0 [_, _, _])) (rfl) (rfl) (by omega) (by omega)) ?_
                  rintro _ _ ⟨ob22, cap22, tl22, rfl, own22, rfl⟩
                  rw [show z.o.flatMap encLp ++ [Value.int .i64 x.fd, .int .i64 x.dir, .int .u64 (x.at_ : Int)] = (z.o ++ [x]).flatMap encLp from by rw [List.flatMap_append]; rfl, show z.o.length + 1 = (z.o ++ [x]).length from by rw [List.length_append]; rfl] at *
                  refine WL_val rfl rfl rfl (R_assign rfl rfl) ?_
                  refine WL_nil ?_
                  refine WQ_code ?_
                  refine WC_region ?_
                  refine WL_val rfl rfl rfl (R_add rfl rfl rfl (by omega)) ?_
                  refine WL_val rfl rfl rfl (R_move rfl rfl) ?_
                  refine WL_nil ?_
                  refine WQ_nextF (⟨z.j + 1, z.o ++ [x], ob22, cap22, tl22⟩) (⟨by dsimp only; omega, by dsimp only; rw [tk_next hx, laterL_snoc, if_pos (by omega), ho], own22⟩) (by dsimp only; omega) (Le.lq (by repeat (first | exact Le.nil | refine Le.cons rfl (by first | rfl | (congr 1; omega)) ?_))) (by repeat (first | exact Pushed.refl | refine Pushed.push rfl ?_)) rfl (by repeat (first | exact Pulls.nil | exact Pulls.all | (apply Pulls.cons; (repeat (first | exact Pull.head | apply Pull.tail))) | apply Pulls.skip))
                · refine WC_skip ?_
                  refine WQ_code ?_
                  refine WC_region ?_
                  refine WL_val rfl rfl rfl (R_add rfl rfl rfl (by omega)) ?_
                  refine WL_val rfl rfl rfl (R_move rfl rfl) ?_
                  refine WL_nil ?_
                  refine WQ_nextF (⟨z.j + 1, z.o, z.ob, z.c, z.tl⟩) (⟨by dsimp only; omega, by dsimp only; rw [tk_next hx, laterL_snoc, if_neg (by omega), List.append_nil, ho], hw⟩) (by dsimp only; omega) (Le.lq (by repeat (first | exact Le.nil | refine Le.cons rfl (by first | rfl | (congr 1; omega)) ?_))) (by repeat (first | exact Pushed.refl | refine Pushed.push rfl ?_)) rfl (by repeat (first | exact Pulls.nil | exact Pulls.all | (apply Pulls.cons; (repeat (first | exact Pull.head | apply Pull.tail))) | apply Pulls.skip))
              · have hfin : z.o = laterL a.tm y.F := by rw [ho, List.take_of_length_le (by omega)]
                have hcnt : z.o.length + l1.length = y.F.length := by rw [hfin]; exact got_len hr hto2 hlp
                refine WC_exit ?_
                refine WQ_code ?_
                refine WC_seq ?_
                refine WC_seq ?_
                refine WC_region ?_
                refine WL_val rfl rfl rfl (R_move rfl rfl) ?_
                refine WL_val rfl rfl rfl (R_len rfl Try.underlying42 rfl) ?_
                refine WL_val rfl rfl rfl (R_move rfl rfl) ?_
                refine WL_val rfl rfl rfl (R_len rfl Try.underlying42 rfl) ?_
                refine WL_val rfl rfl rfl (R_add rfl rfl rfl (by omega)) ?_
                refine WL_val rfl rfl rfl (R_move rfl rfl) ?_
                refine WL_val rfl rfl rfl (R_len rfl Try.underlying42 rfl) ?_
                refine WL_val rfl rfl rfl (R_neq rfl rfl rfl) ?_
                refine WL_nil ?_
                refine WQ_code ?_
                refine WC_dF rfl (by omega) ?_
                refine WC_skip ?_
                refine WQ_code ?_
                refine WC_region ?_
                refine WL_val rfl rfl rfl (R_move rfl rfl) ?_
                refine WL_val rfl rfl rfl (R_assign rfl rfl) ?_
                refine WL_nil ?_
                refine WQ_code ?_
                refine WC_seq ?_
                refine WC_region ?_
                refine WL_val rfl rfl rfl (R_move rfl rfl) ?_
                refine WL_do rfl rfl rfl (D_call (dnext_ok d' hd') rfl rfl rfl rfl (by repeat (first | exact Pulls.nil | exact Pulls.all | (apply Pulls.cons; (repeat (first | exact Pull.head | apply Pull.tail))) | apply Pulls.skip))) ?_
                rintro _ _ ⟨_, ⟨rfl, rfl⟩, rfl⟩
                refine WL_val rfl rfl rfl (R_move rfl rfl) ?_
                refine WL_do rfl rfl rfl (D_call (dnow_ok d' hd') rfl rfl rfl rfl (by repeat (first | exact Pulls.nil | exact Pulls.all | (apply Pulls.cons; (repeat (first | exact Pull.head | apply Pull.tail))) | apply Pulls.skip))) ?_
                rintro _ _ ⟨_, ⟨rfl, rfl⟩, rfl⟩
                refine WL_val rfl rfl rfl (R_leq rfl rfl rfl) ?_
                refine WL_nil ?_
                refine WQ_code ?_
                refine WC_dF rfl (by have h9 := (hd'.r.next).gt hd'.r.nv; omega) ?_
                refine WC_skip ?_
                refine WQ_code ?_
                refine WC_region ?_
                refine WL_val rfl rfl rfl (R_add rfl rfl rfl (by omega)) ?_
                refine WL_val rfl rfl rfl (R_move rfl rfl) ?_
                refine WL_nil ?_
                refine WQ_nextF (⟨y.k + 1, y.f, advN y.now a.tm, d', z.o, z.ob, z.c, z.tl⟩) (⟨by dsimp only; omega, hd', rfl, by dsimp only; rw [hadv, hfin]; exact hold_adv hr (by omega), hw, by dsimp only; omega⟩) (by dsimp only; omega) (Le.lq (by repeat (first | exact Le.nil | refine Le.cons rfl (by first | rfl | (congr 1; omega)) ?_))) (by repeat (first | exact Pushed.refl | refine Pushed.push rfl ?_)) rfl (by repeat (first | exact Pulls.nil | exact Pulls.all | (apply Pulls.cons; (repeat (first | exact Pull.head | apply Pull.tail))) | apply Pulls.skip))
        · refine WC_skip ?_
          refine WQ_code ?_
          refine WC_seq ?_
          refine WC_region ?_
          refine WL_val rfl rfl rfl (R_move rfl rfl) ?_
          refine WL_do rfl rfl rfl (D_call (dnext_ok y.d hy) rfl rfl rfl rfl (by repeat (first | exact Pulls.nil | exact Pulls.all | (apply Pulls.cons; (repeat (first | exact Pull.head | apply Pull.tail))) | apply Pulls.skip))) ?_
          rintro _ _ ⟨_, ⟨rfl, rfl⟩, rfl⟩
          refine WL_val rfl rfl rfl (R_move rfl rfl) ?_
          refine WL_do rfl rfl rfl (D_call (dnow_ok y.d hy) rfl rfl rfl rfl (by repeat (first | exact Pulls.nil | exact Pulls.all | (apply Pulls.cons; (repeat (first | exact Pull.head | apply Pull.tail))) | apply Pulls.skip))) ?_
          rintro _ _ ⟨_, ⟨rfl, rfl⟩, rfl⟩
          refine WL_val rfl rfl rfl (R_leq rfl rfl rfl) ?_
          refine WL_nil ?_
          refine WQ_code ?_
          refine WC_dF rfl (by have h9 := (hy.r.next).gt hy.r.nv; omega) ?_
          refine WC_skip ?_
          refine WQ_code ?_
          refine WC_region ?_
          refine WL_val rfl rfl rfl (R_add rfl rfl rfl (by omega)) ?_
          refine WL_val rfl rfl rfl (R_move rfl rfl) ?_
          refine WL_nil ?_
          refine WQ_nextF (⟨y.k + 1, y.f, y.now, y.d, y.F, y.ob, y.c, y.tl⟩) (⟨by dsimp only; omega, hy, rfl, hr, own, by dsimp only; omega⟩) (by dsimp only; omega) (Le.lq (by repeat (first | exact Le.nil | refine Le.cons rfl (by first | rfl | (congr 1; omega)) ?_))) (by repeat (first | exact Pushed.refl | refine Pushed.push rfl ?_)) rfl (by repeat (first | exact Pulls.nil | exact Pulls.all | (apply Pulls.cons; (repeat (first | exact Pull.head | apply Pull.tail))) | apply Pulls.skip))
  · refine WC_exit ?_
    refine WQ_code ?_
    refine WC_seq ?_
    refine WC_region ?_
    refine WL_val rfl rfl rfl (R_move rfl rfl) ?_
    refine WL_do rfl rfl rfl (D_call (dcopy_ok y.d hy) rfl rfl rfl rfl (by repeat (first | exact Pulls.nil | exact Pulls.all | (apply Pulls.cons; (repeat (first | exact Pull.head | apply Pull.tail))) | apply Pulls.skip))) ?_
    rintro _ _ ⟨_, ⟨d2, rfl, rfl, hdn2, hd2⟩, rfl⟩
    refine WL_val rfl rfl rfl (R_assign rfl rfl) ?_
    refine WL_nil ?_
    refine WQ_code ?_
    refine WC_seq ?_
    refine WC_region ?_
    obtain ⟨p, hp⟩ : ∃ p, p = min one two := ⟨_, rfl⟩
    obtain ⟨q, hq⟩ : ∃ q, q = max one two := ⟨_, rfl⟩
    refine WL_val rfl rfl rfl (R_move rfl rfl) ?_
    refine WL_val rfl rfl rfl (R_move rfl rfl) ?_
    refine WL_val rfl rfl rfl (R_minR (r := ((p : Nat) : Int)) rfl rfl rfl (by omega)) ?_
    refine WL_val rfl rfl rfl (R_move rfl rfl) ?_
    refine WL_val rfl rfl rfl (R_move rfl rfl) ?_
    refine WL_val rfl rfl rfl (R_maxR (r := ((q : Nat) : Int)) rfl rfl rfl (by omega)) ?_
    refine WL_val rfl rfl rfl (R_assign rfl rfl) ?_
    refine WL_val rfl rfl rfl (R_assign rfl rfl) ?_
    refine WL_nil ?_
    refine WQ_code ?_
    refine WC_seq ?_
    refine WC_seq ?_
    refine WC_region ?_
    refine WL_val rfl rfl rfl (R_move rfl rfl) ?_
    refine WL_val rfl rfl rfl (R_ptrEqNil rfl Try.underlying30 rfl) ?_
    refine WL_nil ?_
    refine WQ_code ?_
    refine WC_F rfl ?_
    refine WC_skip ?_
    refine WQ_code ?_
    refine WC_seq ?_
    refine WC_seq ?_
    refine WC_region ?_
    refine WL_val rfl rfl rfl (R_move rfl rfl) ?_
    refine WL_val rfl rfl rfl (R_move rfl rfl) ?_
    refine WL_do rfl rfl rfl (D_call (dnow_ok y.d hy) rfl rfl rfl rfl (by repeat (first | exact Pulls.nil | exact Pulls.all | (apply Pulls.cons; (repeat (first | exact Pull.head | apply Pull.tail))) | apply Pulls.skip))) ?_
    rintro _ _ ⟨_, ⟨rfl, rfl⟩, rfl⟩
    refine WL_val rfl rfl rfl (R_lss rfl rfl rfl) ?_
    refine WL_val rfl rfl rfl (R_move rfl rfl) ?_
    refine WL_splitD (s := 238) rfl (fun c26 => ?_) (fun c26 => ?_)
    · refine WL_skip rfl rfl rfl ?_
      refine WL_skip rfl rfl rfl ?_
      refine WL_val rfl rfl rfl (R_pickT rfl rfl rfl) ?_
      refine WL_nil ?_
      refine WQ_code ?_
      refine WC_T rfl ?_
      refine WC_seq ?_
      refine WC_region ?_
      refine WL_do rfl rfl rfl (D_call (known_ok) rfl rfl rfl rfl (by repeat (first | exact Pulls.nil | exact Pulls.all | (apply Pulls.cons; (repeat (first | exact Pull.head | apply Pull.tail))) | apply Pulls.skip))) ?_
      rintro _ _ ⟨_, ⟨rfl, rfl⟩, rfl⟩
      refine WL_val rfl rfl rfl (R_assign rfl rfl) ?_
      refine WL_nil ?_
      refine WQ_code ?_
      refine WC_ret ?_
      refine WQ_ret rfl rfl (.cons (.tmp rfl) .nil) rfl (by
          exact ⟨rfl, rfl⟩) (by repeat (first | exact Pulls.nil | exact Pulls.all | (apply Pulls.cons; (repeat (first | exact Pull.head | apply Pull.tail))) | apply Pulls.skip))
    · refine WL_val rfl rfl rfl (R_move rfl rfl) ?_
      refine WL_val rfl rfl rfl (R_eql rfl rfl rfl) ?_
      refine WL_val rfl rfl rfl (R_pickF rfl rfl rfl) ?_
      refine WL_nil ?_
      refine WQ_code ?_
      refine WC_dec rfl (fun c27 => ?_) (fun c27 => ?_)
      · refine WC_seq ?_
        refine WC_region ?_
        refine WL_do rfl rfl rfl (D_call (known_ok) rfl rfl rfl rfl (by repeat (first | exact Pulls.nil | exact Pulls.all | (apply Pulls.cons; (repeat (first | exact Pull.head | apply Pull.tail))) | apply Pulls.skip))) ?_
        rintro _ _ ⟨_, ⟨rfl, rfl⟩, rfl⟩
        refine WL_val rfl rfl rfl (R_assign rfl rfl) ?_
        refine WL_nil ?_
        refine WQ_code ?_
        refine WC_ret ?_
        refine WQ_ret rfl rfl (.cons (.tmp rfl) .nil) rfl (by
            exact ⟨rfl, rfl⟩) (by repeat (first | exact Pulls.nil | exact Pulls.all | (apply Pulls.cons; (repeat (first | exact Pull.head | apply Pull.tail))) | apply Pulls.skip))
      · refine WC_skip ?_
        refine WQ_code ?_
        refine WC_seq ?_
        refine WC_region ?_
        refine WL_val rfl rfl rfl (R_move rfl rfl) ?_
        refine WL_val rfl rfl rfl (R_move rfl rfl) ?_
        refine WL_do rfl rfl rfl (D_call (dadv_ok y.d hy p (by omega) (by omega)) rfl rfl rfl rfl (by repeat (first | exact Pulls.nil | exact Pulls.all | (apply Pulls.cons; (repeat (first | exact Pull.head | apply Pull.tail))) | apply Pulls.skip))) ?_
        rintro _ _ ⟨_, ⟨lA, oA, cA, tA, dA, rfl, ownA, hlA, hA9, rfl, hpA, hnA, hdA⟩, rfl⟩
        rw [← hpA]
        refine WL_val rfl rfl rfl (R_move rfl rfl) ?_
        refine WL_val rfl rfl rfl (R_extract rfl rfl rfl) ?_
        refine WL_val rfl rfl rfl (R_extract rfl rfl rfl) ?_
        refine WL_val rfl rfl rfl (R_assign rfl rfl) ?_
        refine WL_val rfl rfl rfl (R_assign rfl rfl) ?_
        refine WL_nil ?_
        refine WQ_code ?_
        refine WC_seq ?_
        refine WC_region ?_
        refine WL_val rfl rfl rfl (R_move rfl rfl) ?_
        refine WL_val rfl rfl rfl (R_move rfl rfl) ?_
        refine WL_do rfl rfl rfl (D_call (dadv_ok dA hdA q (by omega) (by omega)) rfl rfl rfl rfl (by repeat (first | exact Pulls.nil | exact Pulls.all | (apply Pulls.cons; (repeat (first | exact Pull.head | apply Pull.tail))) | apply Pulls.skip))) ?_
        rintro _ _ ⟨_, ⟨lB, oB, cB, tB, dB, rfl, ownB, hlB, hB9, rfl, hpB, hnB, hdB⟩, rfl⟩
        rw [← hpB]
        refine WL_val rfl rfl rfl (R_move rfl rfl) ?_
        refine WL_val rfl rfl rfl (R_extract rfl rfl rfl) ?_
        refine WL_val rfl rfl rfl (R_extract rfl rfl rfl) ?_
        refine WL_val rfl rfl rfl (R_assign rfl rfl) ?_
        refine WL_val rfl rfl rfl (R_assign rfl rfl) ?_
        refine WL_nil ?_
        refine WQ_code ?_
        refine WC_seq ?_
        refine WC_region ?_
        refine WL_val rfl rfl rfl (R_move rfl rfl) ?_
        refine WL_val rfl rfl rfl (R_move rfl rfl) ?_
        refine WL_do rfl rfl rfl (D_call (dadv_ok d2 hd2 q (by omega) (by omega)) rfl rfl rfl rfl (by repeat (first | exact Pulls.nil | exact Pulls.all | (apply Pulls.cons; (repeat (first | exact Pull.head | apply Pull.tail))) | apply Pulls.skip))) ?_
        rintro _ _ ⟨_, ⟨lC, oC, cC, tC, dC, rfl, ownC, hlC, hC9, rfl, hpC, hnC, hdC⟩, rfl⟩
        rw [← hpC]
        obtain rfl : lC = lA ++ lB := hlC.one (lap_join hlA hlB (by omega) (by omega))
        have hnn : nxtL dB.L = nxtL dC.L := hdB.r.next.one hdC.r.next
        refine WL_val rfl rfl rfl (R_move rfl rfl) ?_
        refine WL_val rfl rfl rfl (R_extract rfl rfl rfl) ?_
        refine WL_val rfl rfl rfl (R_extract rfl rfl rfl) ?_
        refine WL_val rfl rfl rfl (R_assign rfl rfl) ?_
        refine WL_val rfl rfl rfl (R_assign rfl rfl) ?_
        refine WL_nil ?_
        refine WQ_code ?_
        refine WC_seq ?_
        refine WC_region ?_
        refine WL_val rfl rfl rfl (R_move rfl rfl) ?_
        refine WL_val rfl rfl rfl (R_eql rfl rfl rfl) ?_
        refine WL_set (s := 262) (v := .bool true) rfl (by simp) ?_
        refine WL_val rfl rfl rfl (R_move rfl rfl) ?_
        refine WL_val rfl rfl rfl (R_move rfl rfl) ?_
        refine WL_val rfl rfl rfl (R_eql rfl rfl rfl) ?_
        refine WL_set (s := 265) (v := .bool true) rfl (by simp) ?_
        refine WL_val rfl rfl rfl (R_pickT rfl rfl rfl) ?_
        refine WL_val rfl rfl rfl (R_move rfl rfl) ?_
        refine WL_val rfl rfl rfl (R_move rfl rfl) ?_
        refine WL_val rfl rfl rfl (R_eql rfl rfl rfl) ?_
        refine WL_set (s := 269) (v := .bool true) rfl (by simp) ?_
        refine WL_val rfl rfl rfl (R_pickT rfl rfl rfl) ?_
        refine WL_val rfl rfl rfl (R_move rfl rfl) ?_
        refine WL_val rfl rfl rfl (R_move rfl rfl) ?_
        refine WL_val rfl rfl rfl (R_move rfl rfl) ?_
        refine WL_do rfl rfl rfl (D_appendO rfl si42 rfl ownA (by repeat (first | exact Pull.head | apply Pull.tail)) rfl ownB (by repeat (first | exact List.Mem.head _ | refine List.Mem.tail _ ?_)) (fm_all (fun x => rfl) _) (by omega) (by omega)) ?_
        rintro _ _ ⟨ob9, cap9, tl9, rfl, own9, rfl⟩
        rw [← List.flatMap_append, ← List.length_append] at *
        refine WL_val rfl rfl rfl (R_move rfl rfl) ?_
        refine WL_do rfl rfl rfl (D_call (same_ok (lA ++ lB) (by rw [List.length_append]; omega) ob9 cap9 tl9 oC cC tC own9 ownC) rfl rfl rfl rfl (by repeat (first | exact Pulls.nil | exact Pulls.all | (apply Pulls.cons; (repeat (first | exact Pull.head | apply Pull.tail))) | apply Pulls.skip))) ?_
        rintro _ _ ⟨_, ⟨rfl, rfl⟩, rfl⟩
        refine WL_val rfl rfl rfl (R_pickT rfl rfl rfl) ?_
        refine WL_val rfl rfl rfl (R_move rfl rfl) ?_
        refine WL_val rfl rfl rfl (R_move rfl rfl) ?_
        refine WL_do rfl rfl rfl (D_call (dnow_ok dB hdB) rfl rfl rfl rfl (by repeat (first | exact Pulls.nil | exact Pulls.all | (apply Pulls.cons; (repeat (first | exact Pull.head | apply Pull.tail))) | apply Pulls.skip))) ?_
        rintro _ _ ⟨_, ⟨rfl, rfl⟩, rfl⟩
        refine WL_val rfl rfl rfl (R_move rfl rfl) ?_
        refine WL_val rfl rfl rfl (R_eql rfl rfl rfl) ?_
        refine WL_set (s := 282) (v := .bool true) rfl (by simp) ?_
        refine WL_val rfl rfl rfl (R_pickT rfl rfl rfl) ?_
        refine WL_val rfl rfl rfl (R_move rfl rfl) ?_
        refine WL_val rfl rfl rfl (R_move rfl rfl) ?_
        refine WL_do rfl rfl rfl (D_call (dnow_ok dC hdC) rfl rfl rfl rfl (by repeat (first | exact Pulls.nil | exact Pulls.all | (apply Pulls.cons; (repeat (first | exact Pull.head | apply Pull.tail))) | apply Pulls.skip))) ?_
        rintro _ _ ⟨_, ⟨rfl, rfl⟩, rfl⟩
        refine WL_val rfl rfl rfl (R_move rfl rfl) ?_
        refine WL_val rfl rfl rfl (R_eql rfl rfl rfl) ?_
        refine WL_set (s := 288) (v := .bool true) rfl (by simp) ?_
        refine WL_val rfl rfl rfl (R_pickT rfl rfl rfl) ?_
        refine WL_val rfl rfl rfl (R_move rfl rfl) ?_
        refine WL_val rfl rfl rfl (R_move rfl rfl) ?_
        refine WL_do rfl rfl rfl (D_call (dnext_ok dB hdB) rfl rfl rfl rfl (by repeat (first | exact Pulls.nil | exact Pulls.all | (apply Pulls.cons; (repeat (first | exact Pull.head | apply Pull.tail))) | apply Pulls.skip))) ?_
        rintro _ _ ⟨_, ⟨rfl, rfl⟩, rfl⟩
        refine WL_val rfl rfl rfl (R_move rfl rfl) ?_
        refine WL_do rfl rfl rfl (D_call (dnext_ok dC hdC) rfl rfl rfl rfl (by repeat (first | exact Pulls.nil | exact Pulls.all | (apply Pulls.cons; (repeat (first | exact Pull.head | apply Pull.tail))) | apply Pulls.skip))) ?_
        rintro _ _ ⟨_, ⟨rfl, rfl⟩, rfl⟩
        refine WL_val rfl rfl rfl (R_eql rfl rfl rfl) ?_
        refine WL_set (s := 295) (v := .bool true) rfl (by simp [hnn]) ?_
        refine WL_val rfl rfl rfl (R_pickT rfl rfl rfl) ?_
        refine WL_val rfl rfl rfl (R_move rfl rfl) ?_
        refine WL_do rfl rfl rfl (D_call (known_ok) rfl rfl rfl rfl (by repeat (first | exact Pulls.nil | exact Pulls.all | (apply Pulls.cons; (repeat (first | exact Pull.head | apply Pull.tail))) | apply Pulls.skip))) ?_
        rintro _ _ ⟨_, ⟨rfl, rfl⟩, rfl⟩
        refine WL_val rfl rfl rfl (R_pickT rfl rfl rfl) ?_
        refine WL_val rfl rfl rfl (R_assign rfl rfl) ?_
        refine WL_nil ?_
        refine WQ_code ?_
        refine WC_ret ?_
        refine WQ_ret rfl rfl (.cons (.tmp rfl) .nil) rfl (by
            exact ⟨rfl, rfl⟩) (by repeat (first | exact Pulls.nil | exact Pulls.all | (apply Pulls.cons; (repeat (first | exact Pull.head | apply Pull.tail))) | apply Pulls.skip))

end Go.Proofs.Ytnkpefonocggfaa
