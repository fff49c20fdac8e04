/-
  Chapter 10 (deadline), part Dead: contracts of functions that the laws call, each for the heap it names.
-/
import Derived.Test.YtnkpefonocggfaaRows
import Derived.Test.YtnkpefonocggfaaSLPhase
import Derived.Test.YtnkpefonocggfaaSLInt
import Derived.Test.YtnkpefonocggfaaTab
import Derived.Test.YtnkpefonocggfaaDeadM
set_option linter.unusedVariables false
set_option maxRecDepth 20000
set_option maxHeartbeats 2000000
namespace Go.Proofs.Ytnkpefonocggfaa


theorem dnew_ok (now : Nat) (h : now < 18446744073709551615) : Spec Try.prog 10 [.int .u64 (now : Int)] [] (fun r H' => ∃ d : DM, r = .tuple #[ptrH d.p, .int .i64 0] ∧ H' = dlH now d ∧ d.m.g.n = 0 ∧ DIs (fun _ => 18446744073709551615) now d) := by
  refine Spec.of (E := [(0, .int .u64 (now : Int))]) Try.func10 rfl (by kernel_rfl) Try.ntmps10 rfl rfl (fun w => ?_)
  refine WC_seq ?_
  refine WC_region ?_
  refine WL_val rfl rfl rfl (R_assign rfl rfl) ?_
  refine WL_val rfl rfl rfl (R_assign rfl rfl) ?_
  refine WL_nil ?_
  refine WQ_code ?_
  refine WC_seq ?_
  refine WC_region ?_
  refine WL_val rfl rfl rfl (R_move rfl rfl) ?_
  refine WL_do rfl rfl rfl (D_call (vnew_ok now h) rfl rfl rfl rfl (by repeat (first | exact Pulls.nil | exact Pulls.all | (apply Pulls.cons; (repeat (first | exact Pull.head | apply Pull.tail))) | apply Pulls.skip))) ?_
  rintro _ _ ⟨_, ⟨vc, rfl, rfl⟩, rfl⟩
  refine WL_val rfl rfl rfl (R_move rfl rfl) ?_
  refine WL_val rfl rfl rfl (R_extract rfl rfl rfl) ?_
  refine WL_val rfl rfl rfl (R_extract rfl rfl rfl) ?_
  refine WL_val rfl rfl rfl (R_assign rfl rfl) ?_
  refine WL_val rfl rfl rfl (R_assign rfl rfl) ?_
  refine WL_nil ?_
  refine WQ_code ?_
  refine WC_seq ?_
  refine WC_seq ?_
  refine WC_region ?_
  refine WL_val rfl rfl rfl (R_move rfl rfl) ?_
  refine WL_val rfl rfl rfl (R_neq rfl rfl rfl) ?_
  refine WL_nil ?_
  refine WQ_code ?_
  refine WC_dF rfl (by simp) ?_
  refine WC_skip ?_
  refine WQ_code ?_
  refine WC_seq ?_
  refine WC_region ?_
  refine WL_val rfl rfl rfl (R_move rfl rfl) ?_
  refine WL_do rfl rfl rfl (D_call (mnew_ok) rfl rfl rfl rfl (by repeat (first | exact Pulls.nil | exact Pulls.all | (apply Pulls.cons; (repeat (first | exact Pull.head | apply Pull.tail))) | apply Pulls.skip))) ?_
  rintro _ _ ⟨_, ⟨m0, rfl, rfl, g0, n0⟩, rfl⟩
  refine WL_val rfl rfl rfl (R_build (cs := ptrH vc :: ptrH m0.pt :: (nwS 0).flatMap encSl) rfl (nw_zero ▸ zv74) pl74 rfl fill2) ?_
  refine WL_do rfl rfl rfl (D_box (cs := dlV vc m0.pt (nwS 0)) rfl rfl rfl) ?_
  rintro _ _ ⟨b1, rfl, rfl⟩
  refine WL_val rfl rfl rfl (R_assign rfl rfl) ?_
  refine WL_nil ?_
  refine WQ_code ?_
  refine WC_seq ?_
  refine WC_seq ?_
  refine WC_region ?_
  refine WL_val rfl rfl rfl (R_move rfl rfl) ?_
  refine WL_nil ?_
  refine WQ_code ?_
  refine WC_block ?_
  refine WC_loopF (G := Nat) [7, 20, 21, 22, 23, 24, 25, 26, 27, 28, 29, 30, 31] (fun j => j ≤ 128) (fun j => [(20, .int .i64 (j : Int))]) (fun j => [⟨some b1, cl (dlV vc m0.pt (nwS j)) 74⟩]) (fun j => 128 - j) (0) (Nat.zero_le _) (Le.lq (by repeat (first | exact Le.nil | refine Le.cons rfl (by first | rfl | (congr 1; omega)) ?_))) (by repeat (first | exact Pulls.nil | exact Pulls.all | (apply Pulls.cons; (repeat (first | exact Pull.head | apply Pull.tail))) | apply Pulls.skip)) ?_
  rintro j hj
  refine WC_seq ?_
  refine WC_region ?_
  refine WL_val rfl rfl rfl (R_lss rfl rfl rfl) ?_
  refine WL_nil ?_
  refine WQ_code ?_
  refine WC_seq ?_
  refine WC_dec rfl (fun c1 => ?_) (fun c1 => ?_)
  · refine WC_skip ?_
    refine WQ_code ?_
    refine WC_seq ?_
    refine WC_block ?_
    refine WC_seq ?_
    refine WC_region ?_
    refine WL_val rfl rfl rfl (R_move rfl rfl) ?_
    refine WL_val rfl rfl rfl (R_assign rfl rfl) ?_
    refine WL_nil ?_
    refine WQ_code ?_
    refine WC_region ?_
    refine WL_val rfl rfl rfl (R_move rfl rfl) ?_
    refine WL_val rfl rfl rfl (R_move rfl rfl) ?_
    refine WL_val rfl rfl rfl (R_build rfl zv70 pl70 rfl rfl) ?_
    refine WL_val rfl rfl rfl (R_build rfl zv70 pl70 rfl rfl) ?_
    refine WL_val rfl rfl rfl (R_buildArr rfl Try.underlying71 Try.sizeOf70 zv71 rfl rfl) ?_
    refine WL_val rfl rfl rfl (R_nilCheck rfl rfl) ?_
    refine WL_val rfl rfl rfl (R_fieldAddr rfl fa74_2 rfl) ?_
    refine WL_val rfl rfl rfl (R_indexAddrAN rfl Try.underlying72 Try.sizeOf71 rfl rfl (by omega)) ?_
    refine WL_do0 rfl rfl (D_store (vs := [_, _, _, _, _, _, _, _]) rfl Try.sizeOf71 rfl rfl rfl rfl rfl (by repeat (first | exact Pull.head | apply Pull.tail)) (by rw [dl_len, nw_len j hj]; omega)) ?_
    rintro _ _ rfl
    rw [nw_put (show j < 128 by omega)]
    refine WL_nil ?_
    refine WQ_code ?_
    refine WC_region ?_
    refine WL_val rfl rfl rfl (R_add rfl rfl rfl (by omega)) ?_
    refine WL_val rfl rfl rfl (R_move rfl rfl) ?_
    refine WL_nil ?_
    refine WQ_nextF (j + 1) (by omega) (by omega) (Le.lq (by repeat (first | exact Le.nil | refine Le.cons rfl (by first | rfl | (congr 1; omega)) ?_))) (by repeat (first | exact Pushed.refl | refine Pushed.push rfl ?_)) rfl (by repeat (first | exact Pulls.nil | exact Pulls.all | (apply Pulls.cons; (repeat (first | exact Pull.head | apply Pull.tail))) | apply Pulls.skip))
  · obtain rfl : j = 128 := by omega
    refine WC_exit ?_
    refine WQ_code ?_
    refine WC_seq ?_
    refine WC_region ?_
    refine WL_val rfl rfl rfl (R_move rfl rfl) ?_
    refine WL_val rfl rfl rfl (R_assign rfl rfl) ?_
    refine WL_val rfl rfl rfl (R_assign rfl rfl) ?_
    refine WL_nil ?_
    refine WQ_code ?_
    refine WC_ret ?_
    refine WQ_ret rfl rfl (.cons (.tmp rfl) (.cons (.tmp rfl) .nil)) rfl (by
        exact ⟨⟨b1, vc, [], nwS 128, m0⟩, rfl, rfl, n0, ⟨by rw [nw_all]; exact DRel.new h, g0⟩⟩) (by repeat (first | exact Pulls.nil | exact Pulls.all | (apply Pulls.cons; (repeat (first | exact Pull.head | apply Pull.tail))) | apply Pulls.skip))
theorem dnew_bad : Spec Try.prog 10 [.int .u64 18446744073709551615] [] (fun r H' => r = .tuple #[.pointer none, .int .i64 2] ∧ H' = []) := by
  refine Spec.of (E := [(0, .int .u64 18446744073709551615)]) Try.func10 rfl (by kernel_rfl) Try.ntmps10 rfl rfl (fun w => ?_)
  refine WC_seq ?_
  refine WC_region ?_
  refine WL_val rfl rfl rfl (R_assign rfl rfl) ?_
  refine WL_val rfl rfl rfl (R_assign rfl rfl) ?_
  refine WL_nil ?_
  refine WQ_code ?_
  refine WC_seq ?_
  refine WC_region ?_
  refine WL_val rfl rfl rfl (R_move rfl rfl) ?_
  refine WL_do rfl rfl rfl (D_call (vnew_bad) rfl rfl rfl rfl (by repeat (first | exact Pulls.nil | exact Pulls.all | (apply Pulls.cons; (repeat (first | exact Pull.head | apply Pull.tail))) | apply Pulls.skip))) ?_
  rintro _ _ ⟨_, ⟨rfl, rfl⟩, rfl⟩
  refine WL_val rfl rfl rfl (R_move rfl rfl) ?_
  refine WL_val rfl rfl rfl (R_extract rfl rfl rfl) ?_
  refine WL_val rfl rfl rfl (R_extract rfl rfl rfl) ?_
  refine WL_val rfl rfl rfl (R_assign rfl rfl) ?_
  refine WL_val rfl rfl rfl (R_assign rfl rfl) ?_
  refine WL_nil ?_
  refine WQ_code ?_
  refine WC_seq ?_
  refine WC_seq ?_
  refine WC_region ?_
  refine WL_val rfl rfl rfl (R_move rfl rfl) ?_
  refine WL_val rfl rfl rfl (R_neq rfl rfl rfl) ?_
  refine WL_nil ?_
  refine WQ_code ?_
  refine WC_dT rfl (by simp) ?_
  refine WC_seq ?_
  refine WC_region ?_
  refine WL_val rfl rfl rfl (R_move rfl rfl) ?_
  refine WL_val rfl rfl rfl (R_assign rfl rfl) ?_
  refine WL_val rfl rfl rfl (R_assign rfl rfl) ?_
  refine WL_nil ?_
  refine WQ_code ?_
  refine WC_ret ?_
  refine WQ_ret rfl rfl (.cons (.tmp rfl) (.cons (.tmp rfl) .nil)) rfl (by
      exact ⟨rfl, rfl⟩) (by repeat (first | exact Pulls.nil | exact Pulls.all | (apply Pulls.cons; (repeat (first | exact Pull.head | apply Pull.tail))) | apply Pulls.skip))
section
variable {f : Nat → Nat} {now : Nat}
theorem dset_bad (d : DM) (hd : DIs f now d) (fd dir : Int) (h : spotE fd dir = 2) (k : Nat) : Spec Try.prog 17 [ptrH d.p, .agg #[.int .i64 (fd), .int .i64 (dir)], .int .u64 (k : Int)] (dlH now d) (fun r H' => r = .tuple #[.bool false, .int .i64 2] ∧ H' = dlH now d) := by
  refine Spec.of (E := [(0, ptrH d.p), (1, .agg #[.int .i64 (fd), .int .i64 (dir)]), (2, .int .u64 (k : Int))]) Try.func17 rfl (by kernel_rfl) Try.ntmps17 rfl rfl (fun w => ?_)
  refine WC_seq ?_
  refine WC_region ?_
  refine WL_do rfl rfl rfl (D_box (cs := [_, _]) rfl rfl rfl) ?_
  rintro _ _ ⟨b1, rfl, rfl⟩
  refine WL_val rfl rfl rfl (R_assign rfl rfl) ?_
  refine WL_val rfl rfl rfl (R_assign rfl rfl) ?_
  refine WL_nil ?_
  refine WQ_code ?_
  refine WC_seq ?_
  refine WC_seq ?_
  refine WC_region ?_
  refine WL_val rfl rfl rfl (R_move rfl rfl) ?_
  refine WL_val rfl rfl rfl (R_loadA (vs := [_, _]) rfl ag24 rfl (by repeat (first | exact List.Mem.head _ | refine List.Mem.tail _ ?_)) rfl (by repeat (first | exact At.nil | refine At.cons ?_ | refine At.succ ?_))) ?_
  refine WL_do rfl rfl rfl (D_call (dcheck_ok d.p d.pc d.m.pt d.S fd dir) rfl rfl rfl rfl (by repeat (first | exact Pulls.nil | exact Pulls.all | (apply Pulls.cons; (repeat (first | exact Pull.head | apply Pull.tail))) | apply Pulls.skip))) ?_
  rintro _ _ ⟨_, ⟨rfl, rfl⟩, rfl⟩
  refine WL_val rfl rfl rfl (R_assign rfl rfl) ?_
  refine WL_nil ?_
  refine WQ_code ?_
  refine WC_seq ?_
  refine WC_region ?_
  refine WL_val rfl rfl rfl (R_move rfl rfl) ?_
  refine WL_val rfl rfl rfl (R_neq rfl rfl rfl) ?_
  refine WL_nil ?_
  refine WQ_code ?_
  refine WC_dT rfl (by rw [h]; simp) ?_
  refine WC_seq ?_
  refine WC_region ?_
  refine WL_val rfl rfl rfl (R_move rfl rfl) ?_
  refine WL_val rfl rfl rfl (R_assign rfl rfl) ?_
  refine WL_val rfl rfl rfl (R_assign rfl rfl) ?_
  refine WL_nil ?_
  refine WQ_code ?_
  refine WC_ret ?_
  refine WQ_ret rfl rfl (.cons (.tmp rfl) (.cons (.tmp rfl) .nil)) rfl (by
      exact ⟨by rw [h]; rfl, rfl⟩) (by repeat (first | exact Pulls.nil | exact Pulls.all | (apply Pulls.cons; (repeat (first | exact Pull.head | apply Pull.tail))) | apply Pulls.skip))
theorem dset_ok (d : DM) (hd : DIs f now d) (fd dir : Nat) (h1 : fd < 128) (h2 : dir < 2) (k : Nat) (hk : k ≤ 18446744073709551615) (hb : d.m.g.n + 1 < 9000000000000000000) : Spec Try.prog 17 [ptrH d.p, .agg #[.int .i64 (fd : Int), .int .i64 (dir : Int)], .int .u64 (k : Int)] (dlH now d)
    (fun r H' => ∃ d' : DM, r = .tuple #[.bool (decide (k ≤ now)), .int .i64 0] ∧ H' = dlH now d' ∧ d'.p = d.p ∧ d'.m.g.n ≤ d.m.g.n + 1 ∧ DIs (updF f (2 * fd + dir) k) now d') := by
  obtain ⟨s, hs⟩ : ∃ s, d.S[2 * fd + dir]? = some s := ⟨_, List.getElem?_eq_getElem (show 2 * fd + dir < d.S.length by rw [hd.r.len]; omega)⟩
  have hlen := hd.r.len
  have hlt : 2 * fd + dir < d.S.length := by omega
  have hsp : spotE (fd : Int) (dir : Int) = 0 := by unfold spotE; split <;> omega
  have hnv := hd.r.nv
  refine Spec.of (E := [(0, ptrH d.p), (1, .agg #[.int .i64 (fd : Int), .int .i64 (dir : Int)]), (2, .int .u64 (k : Int))]) Try.func17 rfl (by kernel_rfl) Try.ntmps17 rfl rfl (fun w => ?_)
  refine WC_seq ?_
  refine WC_region ?_
  refine WL_do rfl rfl rfl (D_box (cs := [_, _]) rfl rfl rfl) ?_
  rintro _ _ ⟨b1, rfl, rfl⟩
  refine WL_val rfl rfl rfl (R_assign rfl rfl) ?_
  refine WL_val rfl rfl rfl (R_assign rfl rfl) ?_
  refine WL_nil ?_
  refine WQ_code ?_
  refine WC_seq ?_
  refine WC_seq ?_
  refine WC_region ?_
  refine WL_val rfl rfl rfl (R_move rfl rfl) ?_
  refine WL_val rfl rfl rfl (R_loadA (vs := [_, _]) rfl ag24 rfl (by repeat (first | exact List.Mem.head _ | refine List.Mem.tail _ ?_)) rfl (by repeat (first | exact At.nil | refine At.cons ?_ | refine At.succ ?_))) ?_
  refine WL_do rfl rfl rfl (D_call (dcheck_ok d.p d.pc d.m.pt d.S (fd : Int) (dir : Int)) rfl rfl rfl rfl (by repeat (first | exact Pulls.nil | exact Pulls.all | (apply Pulls.cons; (repeat (first | exact Pull.head | apply Pull.tail))) | apply Pulls.skip))) ?_
  rintro _ _ ⟨_, ⟨rfl, rfl⟩, rfl⟩
  refine WL_val rfl rfl rfl (R_assign rfl rfl) ?_
  refine WL_nil ?_
  refine WQ_code ?_
  refine WC_seq ?_
  refine WC_region ?_
  refine WL_val rfl rfl rfl (R_move rfl rfl) ?_
  refine WL_val rfl rfl rfl (R_neq rfl rfl rfl) ?_
  refine WL_nil ?_
  refine WQ_code ?_
  refine WC_dF rfl (by omega) ?_
  refine WC_skip ?_
  refine WQ_code ?_
  refine WC_seq ?_
  refine WC_draw _ [(0, true), (1, true), (2, true), (3, true), (4, true), (5, true), (6, true), (7, true), (8, true), (9, true)] followsMixed rfl rfl (by kernel_rfl) .all ?_
  refine WM_val rfl rfl rfl rfl (R_move rfl rfl) ?_
  refine WM_val rfl rfl rfl rfl (R_fieldAddr rfl fa24_0 rfl) ?_
  refine WM_val rfl rfl rfl rfl (R_load rfl sc3 rfl (by repeat (first | exact List.Mem.head _ | refine List.Mem.tail _ ?_)) rfl) ?_
  refine WM_val rfl rfl rfl rfl (R_fieldAddr rfl fa24_1 rfl) ?_
  refine WM_val rfl rfl rfl rfl (R_load rfl sc22 rfl (by repeat (first | exact List.Mem.head _ | refine List.Mem.tail _ ?_)) rfl) ?_
  refine WM_val rfl rfl rfl rfl (R_nilCheck rfl rfl) ?_
  refine WM_val rfl rfl rfl rfl (R_fieldAddr rfl fa74_2 rfl) ?_
  refine WM_val rfl rfl rfl rfl (R_indexAddrAN rfl Try.underlying72 Try.sizeOf71 rfl rfl (by omega)) ?_
  refine WM_val rfl rfl rfl rfl (R_indexAddrAN rfl Try.underlying71 Try.sizeOf70 rfl rfl (by omega)) ?_
  refine WM_val rfl rfl rfl rfl (R_assign rfl rfl) ?_
  refine WM_nil ?_
  refine WQ_code ?_
  refine WC_seq ?_
  refine WC_seq ?_
  refine WC_region ?_
  refine WL_val rfl rfl rfl (R_move rfl rfl) ?_
  refine WL_val rfl rfl rfl (R_nilCheck rfl rfl) ?_
  refine WL_val rfl rfl rfl (R_fieldAddr rfl fa70_1 rfl) ?_
  refine WL_val rfl rfl rfl (R_load (v := .bool s.set) rfl sc4 rfl (by repeat (first | exact List.Mem.head _ | refine List.Mem.tail _ ?_)) (dl_get hs (j := 1) (by omega))) ?_
  refine WL_nil ?_
  refine WQ_code ?_
  refine WC_if rfl (fun c1 => ?_) (fun c1 => ?_)
  · have hset : s.set = true := c1
    obtain ⟨t, ht, hg, hn, hgen, ho, htm⟩ := hd.r.fwd _ s hs hset
    have hlr := live_rm hd.t.r (List.getElem?_of_mem ht).choose_spec hg
    refine WC_drawR (tmH d.m) [(0, true), (1, true), (2, true), (3, true), (4, true), (5, true), (6, true), (7, true), (8, false)] followsMixed rfl rfl (by kernel_rfl) (by repeat (first | exact Pulls.nil | exact Pulls.all | (apply Pulls.cons; (repeat (first | exact Pull.head | apply Pull.tail))) | apply Pulls.skip)) ?_
    refine WM_val rfl rfl rfl rfl (R_move rfl rfl) ?_
    refine WM_val rfl rfl rfl rfl (R_nilCheck rfl rfl) ?_
    refine WM_val rfl rfl rfl rfl (R_fieldAddr rfl fa74_1 rfl) ?_
    refine WM_val rfl rfl rfl rfl (R_load rfl sc66 rfl (by repeat (first | exact List.Mem.head _ | refine List.Mem.tail _ ?_)) rfl) ?_
    refine WM_val rfl rfl rfl rfl (R_move rfl rfl) ?_
    refine WM_val rfl rfl rfl rfl (R_nilCheck rfl rfl) ?_
    refine WM_val rfl rfl rfl rfl (R_fieldAddr rfl fa70_2 rfl) ?_
    refine WM_val rfl rfl rfl rfl (R_loadA (vs := [.int .i64 (s.n : Int), .int .i64 (s.gen : Int)]) rfl ag68 rfl (by repeat (first | exact List.Mem.head _ | refine List.Mem.tail _ ?_)) rfl (dl_at hs (j := 2) (vs := [.int .i64 (s.n : Int), .int .i64 (s.gen : Int)]) (by repeat (first | exact At.nil | refine At.cons ?_ | refine At.succ ?_)) (by simp))) ?_
    refine WM_do rfl rfl rfl rfl (D_call (mstop_at d.L d.m hd.t t ht hg s.n s.gen hn hgen) rfl rfl rfl rfl (by repeat (first | exact Pulls.nil | exact Pulls.all | (apply Pulls.cons; (repeat (first | exact Pull.head | apply Pull.tail))) | apply Pulls.skip))) ?_
    rintro _ _ ⟨_, ⟨m1, rfl, rfl, hmp, hmn, hm1⟩, rfl⟩
    refine ⟨⟨_, by repeat (first | exact Pulls.nil | exact Pulls.all | (apply Pulls.cons; (repeat (first | exact Pull.head | apply Pull.tail))) | apply Pulls.skip)⟩, ?_⟩
    rw [← hmp]
    refine WM_nil ?_
    refine WQ_code ?_
    refine WC_seq ?_
    refine WC_region ?_
    refine WL_val rfl rfl rfl (R_move rfl rfl) ?_
    refine WL_val rfl rfl rfl (R_move rfl rfl) ?_
    refine WL_val rfl rfl rfl (R_build rfl zv70 pl70 rfl rfl) ?_
    refine WL_val rfl rfl rfl (R_nilCheck rfl rfl) ?_
    refine WL_do0 rfl rfl (D_store (vs := [_, _, _, _]) rfl Try.sizeOf70 rfl rfl rfl rfl rfl (by repeat (first | exact Pull.head | apply Pull.tail)) (by exact dl_room hlt (j := 0) (by omega))) ?_
    rintro _ _ rfl
    have hput := dl_put (pc := d.pc) (pt := m1.pt) ⟨(k : Nat), false, 0, 0⟩ (hs) (j := 0) (vs := [.int .u64 (k : Int), .bool false, .int .i64 0, .int .i64 0]) (by simp) (by simp [putAt_cons, putAt_nil])
    rw [Nat.add_zero] at hput
    rw [hput]
    have hs1 := set_eq (x := ⟨k, false, 0, 0⟩) hs
    refine WL_nil ?_
    refine WQ_code ?_
    refine WC_seq ?_
    refine WC_seq ?_
    refine WC_region ?_
    refine WL_val rfl rfl rfl (R_move rfl rfl) ?_
    refine WL_val rfl rfl rfl (R_move rfl rfl) ?_
    refine WL_val rfl rfl rfl (R_nilCheck rfl rfl) ?_
    refine WL_val rfl rfl rfl (R_fieldAddr rfl fa74_0 rfl) ?_
    refine WL_val rfl rfl rfl (R_load rfl sc65 rfl (by repeat (first | exact List.Mem.head _ | refine List.Mem.tail _ ?_)) rfl) ?_
    refine WL_do rfl rfl rfl (D_call (vnow_ok d.pc now) rfl rfl rfl rfl (by repeat (first | exact Pulls.nil | exact Pulls.all | (apply Pulls.cons; (repeat (first | exact Pull.head | apply Pull.tail))) | apply Pulls.skip))) ?_
    rintro _ _ ⟨_, ⟨rfl, rfl⟩, rfl⟩
    refine WL_val rfl rfl rfl (R_gtr rfl rfl rfl) ?_
    refine WL_val rfl rfl rfl (R_move rfl rfl) ?_
    refine WL_splitD (s := 49) rfl (fun c2 => ?_) (fun c2 => ?_)
    · refine WL_val rfl rfl rfl (R_move rfl rfl) ?_
      refine WL_val rfl rfl rfl (R_neq rfl rfl rfl) ?_
      refine WL_val rfl rfl rfl (R_pickT rfl rfl rfl) ?_
      refine WL_nil ?_
      refine WQ_code ?_
      refine WC_dec rfl (fun c3 => ?_) (fun c3 => ?_)
      · obtain ⟨fr, hfr⟩ := (hm1).h.free
        have hfew := hd.r.few hd.t.r
        have hroom : (live (rmL d.L t.n)).length < 1024 := by omega
        have hfr1 : fr ≤ 1000000000 := by have := hfr.le; have hwl : (wl (rmL d.L t.n)).length = (live (rmL d.L t.n)).length := List.length_map ..; omega
        have hcnt : cnt (rmL d.L t.n) fr ≤ 9000000000000000000 := by have := cnt_le (rmL d.L t.n) fr; have := (hm1).r.ln; have := (hm1).nb; omega
        refine WC_seq ?_
        refine WC_region ?_
        refine WL_val rfl rfl rfl (R_move rfl rfl) ?_
        refine WL_val rfl rfl rfl (R_nilCheck rfl rfl) ?_
        refine WL_val rfl rfl rfl (R_fieldAddr rfl fa70_1 rfl) ?_
        refine WL_do0 rfl rfl (D_store (vs := [_]) rfl Try.sizeOf4 rfl rfl rfl rfl rfl (by repeat (first | exact Pull.head | apply Pull.tail)) (by exact dl_room (by rw [List.length_set]; exact hlt) (by omega))) ?_
        rintro _ _ rfl
        have hput := dl_put (pc := d.pc) (pt := m1.pt) ⟨(k : Nat), true, 0, 0⟩ (hs1) (j := 1) (vs := [.bool true]) (by simp) (by simp [putAt_cons, putAt_nil])
        rw [hput, List.set_set]
        have hs2 := set_eq (x := ⟨k, true, 0, 0⟩) hs
        refine WL_nil ?_
        refine WQ_code ?_
        refine WC_drawE (⟨some d.p, _⟩ :: tmH m1) [(0, false), (1, false), (2, false), (3, false), (4, true)] [(5, true), (6, true), (7, true), (8, true), (9, true), (10, true), (11, true), (12, false), (13, true), (14, true), (15, true), (16, true), (17, true), (18, false)] followsMixed rfl rfl (by kernel_rfl) (by repeat (first | exact Pulls.nil | exact Pulls.all | (apply Pulls.cons; (repeat (first | exact Pull.head | apply Pull.tail))) | apply Pulls.skip)) ?_
        refine WZ_val rfl rfl rfl rfl (R_move rfl rfl) ?_
        refine WZ_val rfl rfl rfl rfl (R_move rfl rfl) ?_
        refine WZ_val rfl rfl rfl rfl (R_nilCheck rfl rfl) ?_
        refine WZ_val rfl rfl rfl rfl (R_fieldAddr rfl fa74_1 rfl) ?_
        refine WZ_early rfl rfl rfl rfl (R_load rfl sc66 rfl (by repeat (first | exact List.Mem.head _ | refine List.Mem.tail _ ?_)) rfl) ?_
        refine WZ_rest ?_
        refine WM_val rfl rfl rfl rfl (R_move rfl rfl) ?_
        refine WM_val rfl rfl rfl rfl (R_fieldAddr rfl fa24_0 rfl) ?_
        refine WM_val rfl rfl rfl rfl (R_load rfl sc3 rfl (by repeat (first | exact List.Mem.head _ | refine List.Mem.tail _ ?_)) rfl) ?_
        refine WM_val rfl rfl rfl rfl (R_mulR (r := ((2 * fd : Nat) : Int)) rfl rfl rfl (by rw [IntWalk.i64_in _ (by omega)]; omega)) ?_
        refine WM_val rfl rfl rfl rfl (R_fieldAddr rfl fa24_1 rfl) ?_
        refine WM_val rfl rfl rfl rfl (R_load rfl sc22 rfl (by repeat (first | exact List.Mem.head _ | refine List.Mem.tail _ ?_)) rfl) ?_
        refine WM_val rfl rfl rfl rfl (R_addR (r := ((2 * fd + dir : Nat) : Int)) rfl rfl rfl (by rw [IntWalk.i64_in _ (by omega)]; omega)) ?_
        refine WM_do rfl rfl rfl rfl (D_call (mset_ok (rmL d.L t.n) m1 hm1 hroom (by omega) fr hfr k (by omega) _) rfl rfl rfl rfl (by repeat (first | exact Pulls.nil | exact Pulls.all | (apply Pulls.cons; (repeat (first | exact Pull.head | apply Pull.tail))) | apply Pulls.skip))) ?_
        rintro _ _ ⟨_, ⟨m2, rfl, rfl, hmp2, hmn2, hm2⟩, rfl⟩
        refine ⟨⟨_, by repeat (first | exact Pulls.nil | exact Pulls.all | (apply Pulls.cons; (repeat (first | exact Pull.head | apply Pull.tail))) | apply Pulls.skip)⟩, ?_⟩
        rw [← hmp2]
        refine WM_val rfl rfl rfl rfl (R_move rfl rfl) ?_
        refine WM_val rfl rfl rfl rfl (R_extract rfl rfl rfl) ?_
        refine WM_val rfl rfl rfl rfl (R_extract rfl rfl rfl) ?_
        refine WM_val rfl rfl rfl rfl (R_nilCheck rfl rfl) ?_
        refine WM_val rfl rfl rfl rfl (R_fieldAddr rfl fa70_2 rfl) ?_
        refine WM_do0 rfl rfl rfl (D_store (vs := [_, _]) rfl Try.sizeOf68 rfl rfl rfl rfl rfl (by repeat (first | exact Pull.head | apply Pull.tail)) (by exact dl_room (by rw [List.length_set]; exact hlt) (by omega))) ?_
        rintro _ _ rfl
        refine ⟨⟨_, by repeat (first | exact Pulls.nil | exact Pulls.all | (apply Pulls.cons; (repeat (first | exact Pull.head | apply Pull.tail))) | apply Pulls.skip)⟩, ?_⟩
        have hput := dl_put (pc := d.pc) (pt := m2.pt) ⟨(k : Nat), true, fr, cnt (rmL d.L t.n) fr⟩ (hs2) (j := 2) (vs := [.int .i64 (fr : Int), .int .i64 (cnt (rmL d.L t.n) fr : Int)]) (by simp) (by simp [putAt_cons, putAt_nil])
        rw [hput, List.set_set]
        refine WM_nil ?_
        refine WQ_code ?_
        refine WC_seq ?_
        refine WC_region ?_
        refine WL_val rfl rfl rfl (R_move rfl rfl) ?_
        refine WL_val rfl rfl rfl (R_move rfl rfl) ?_
        refine WL_val rfl rfl rfl (R_nilCheck rfl rfl) ?_
        refine WL_val rfl rfl rfl (R_fieldAddr rfl fa74_0 rfl) ?_
        refine WL_val rfl rfl rfl (R_load rfl sc65 rfl (by repeat (first | exact List.Mem.head _ | refine List.Mem.tail _ ?_)) rfl) ?_
        refine WL_do rfl rfl rfl (D_call (vnow_ok d.pc now) rfl rfl rfl rfl (by repeat (first | exact Pulls.nil | exact Pulls.all | (apply Pulls.cons; (repeat (first | exact Pull.head | apply Pull.tail))) | apply Pulls.skip))) ?_
        rintro _ _ ⟨_, ⟨rfl, rfl⟩, rfl⟩
        refine WL_do rfl rfl rfl (D_call (passn_ok k now hd.r.nv) rfl rfl rfl rfl (by repeat (first | exact Pulls.nil | exact Pulls.all | (apply Pulls.cons; (repeat (first | exact Pull.head | apply Pull.tail))) | apply Pulls.skip))) ?_
        rintro _ _ ⟨_, ⟨rfl, rfl⟩, rfl⟩
        refine WL_val rfl rfl rfl (R_assign rfl rfl) ?_
        refine WL_val rfl rfl rfl (R_assign rfl rfl) ?_
        refine WL_nil ?_
        refine WQ_code ?_
        refine WC_ret ?_
        refine WQ_ret rfl rfl (.cons (.tmp rfl) (.cons (.tmp rfl) .nil)) rfl (by
            exact ⟨⟨d.p, d.pc, (rmL d.L t.n) ++ [⟨fr, cnt (rmL d.L t.n) fr, ((2 * fd + dir : Nat) : Int), k, false, m1.g.n + 1⟩], d.S.set (2 * fd + dir) ⟨k, true, fr, cnt (rmL d.L t.n) fr⟩, m2⟩, rfl, rfl, rfl, by dsimp only; omega, ⟨hd.r.on hs (hd.r.cut hd.t.r hs ht hg hn ho) (by omega) (by omega) fr (cnt (rmL d.L t.n) fr) _ hfr1 hcnt, hm2⟩⟩) (by repeat (first | exact Pulls.nil | exact Pulls.all | (apply Pulls.cons; (repeat (first | exact Pull.head | apply Pull.tail))) | apply Pulls.skip))
      · refine WC_skip ?_
        refine WQ_code ?_
        refine WC_seq ?_
        refine WC_region ?_
        refine WL_val rfl rfl rfl (R_move rfl rfl) ?_
        refine WL_val rfl rfl rfl (R_move rfl rfl) ?_
        refine WL_val rfl rfl rfl (R_nilCheck rfl rfl) ?_
        refine WL_val rfl rfl rfl (R_fieldAddr rfl fa74_0 rfl) ?_
        refine WL_val rfl rfl rfl (R_load rfl sc65 rfl (by repeat (first | exact List.Mem.head _ | refine List.Mem.tail _ ?_)) rfl) ?_
        refine WL_do rfl rfl rfl (D_call (vnow_ok d.pc now) rfl rfl rfl rfl (by repeat (first | exact Pulls.nil | exact Pulls.all | (apply Pulls.cons; (repeat (first | exact Pull.head | apply Pull.tail))) | apply Pulls.skip))) ?_
        rintro _ _ ⟨_, ⟨rfl, rfl⟩, rfl⟩
        refine WL_do rfl rfl rfl (D_call (passn_ok k now hd.r.nv) rfl rfl rfl rfl (by repeat (first | exact Pulls.nil | exact Pulls.all | (apply Pulls.cons; (repeat (first | exact Pull.head | apply Pull.tail))) | apply Pulls.skip))) ?_
        rintro _ _ ⟨_, ⟨rfl, rfl⟩, rfl⟩
        refine WL_val rfl rfl rfl (R_assign rfl rfl) ?_
        refine WL_val rfl rfl rfl (R_assign rfl rfl) ?_
        refine WL_nil ?_
        refine WQ_code ?_
        refine WC_ret ?_
        refine WQ_ret rfl rfl (.cons (.tmp rfl) (.cons (.tmp rfl) .nil)) rfl (by
            exact ⟨⟨d.p, d.pc, (rmL d.L t.n), d.S.set (2 * fd + dir) ⟨k, false, 0, 0⟩, m1⟩, rfl, rfl, rfl, by dsimp only; omega, ⟨hd.r.off hs (hd.r.cut hd.t.r hs ht hg hn ho) hk (by omega), hm1⟩⟩) (by repeat (first | exact Pulls.nil | exact Pulls.all | (apply Pulls.cons; (repeat (first | exact Pull.head | apply Pull.tail))) | apply Pulls.skip))
    · refine WL_skip rfl rfl rfl ?_
      refine WL_skip rfl rfl rfl ?_
      refine WL_val rfl rfl rfl (R_pickF rfl rfl rfl) ?_
      refine WL_nil ?_
      refine WQ_code ?_
      refine WC_F rfl ?_
      refine WC_skip ?_
      refine WQ_code ?_
      refine WC_seq ?_
      refine WC_region ?_
      refine WL_val rfl rfl rfl (R_move rfl rfl) ?_
      refine WL_val rfl rfl rfl (R_move rfl rfl) ?_
      refine WL_val rfl rfl rfl (R_nilCheck rfl rfl) ?_
      refine WL_val rfl rfl rfl (R_fieldAddr rfl fa74_0 rfl) ?_
      refine WL_val rfl rfl rfl (R_load rfl sc65 rfl (by repeat (first | exact List.Mem.head _ | refine List.Mem.tail _ ?_)) rfl) ?_
      refine WL_do rfl rfl rfl (D_call (vnow_ok d.pc now) rfl rfl rfl rfl (by repeat (first | exact Pulls.nil | exact Pulls.all | (apply Pulls.cons; (repeat (first | exact Pull.head | apply Pull.tail))) | apply Pulls.skip))) ?_
      rintro _ _ ⟨_, ⟨rfl, rfl⟩, rfl⟩
      refine WL_do rfl rfl rfl (D_call (passn_ok k now hd.r.nv) rfl rfl rfl rfl (by repeat (first | exact Pulls.nil | exact Pulls.all | (apply Pulls.cons; (repeat (first | exact Pull.head | apply Pull.tail))) | apply Pulls.skip))) ?_
      rintro _ _ ⟨_, ⟨rfl, rfl⟩, rfl⟩
      refine WL_val rfl rfl rfl (R_assign rfl rfl) ?_
      refine WL_val rfl rfl rfl (R_assign rfl rfl) ?_
      refine WL_nil ?_
      refine WQ_code ?_
      refine WC_ret ?_
      refine WQ_ret rfl rfl (.cons (.tmp rfl) (.cons (.tmp rfl) .nil)) rfl (by
          exact ⟨⟨d.p, d.pc, (rmL d.L t.n), d.S.set (2 * fd + dir) ⟨k, false, 0, 0⟩, m1⟩, rfl, rfl, rfl, by dsimp only; omega, ⟨hd.r.off hs (hd.r.cut hd.t.r hs ht hg hn ho) hk (by omega), hm1⟩⟩) (by repeat (first | exact Pulls.nil | exact Pulls.all | (apply Pulls.cons; (repeat (first | exact Pull.head | apply Pull.tail))) | apply Pulls.skip))
  · have hset : s.set = false := by simpa using c1
    refine WC_skip ?_
    refine WQ_code ?_
    refine WC_seq ?_
    refine WC_region ?_
    refine WL_val rfl rfl rfl (R_move rfl rfl) ?_
    refine WL_val rfl rfl rfl (R_move rfl rfl) ?_
    refine WL_val rfl rfl rfl (R_build rfl zv70 pl70 rfl rfl) ?_
    refine WL_val rfl rfl rfl (R_nilCheck rfl rfl) ?_
    refine WL_do0 rfl rfl (D_store (vs := [_, _, _, _]) rfl Try.sizeOf70 rfl rfl rfl rfl rfl (by repeat (first | exact Pull.head | apply Pull.tail)) (by exact dl_room hlt (j := 0) (by omega))) ?_
    rintro _ _ rfl
    have hput := dl_put (pc := d.pc) (pt := d.m.pt) ⟨(k : Nat), false, 0, 0⟩ (hs) (j := 0) (vs := [.int .u64 (k : Int), .bool false, .int .i64 0, .int .i64 0]) (by simp) (by simp [putAt_cons, putAt_nil])
    rw [Nat.add_zero] at hput
    rw [hput]
    have hs1 := set_eq (x := ⟨k, false, 0, 0⟩) hs
    refine WL_nil ?_
    refine WQ_code ?_
    refine WC_seq ?_
    refine WC_seq ?_
    refine WC_region ?_
    refine WL_val rfl rfl rfl (R_move rfl rfl) ?_
    refine WL_val rfl rfl rfl (R_move rfl rfl) ?_
    refine WL_val rfl rfl rfl (R_nilCheck rfl rfl) ?_
    refine WL_val rfl rfl rfl (R_fieldAddr rfl fa74_0 rfl) ?_
    refine WL_val rfl rfl rfl (R_load rfl sc65 rfl (by repeat (first | exact List.Mem.head _ | refine List.Mem.tail _ ?_)) rfl) ?_
    refine WL_do rfl rfl rfl (D_call (vnow_ok d.pc now) rfl rfl rfl rfl (by repeat (first | exact Pulls.nil | exact Pulls.all | (apply Pulls.cons; (repeat (first | exact Pull.head | apply Pull.tail))) | apply Pulls.skip))) ?_
    rintro _ _ ⟨_, ⟨rfl, rfl⟩, rfl⟩
    refine WL_val rfl rfl rfl (R_gtr rfl rfl rfl) ?_
    refine WL_val rfl rfl rfl (R_move rfl rfl) ?_
    refine WL_splitD (s := 49) rfl (fun c4 => ?_) (fun c4 => ?_)
    · refine WL_val rfl rfl rfl (R_move rfl rfl) ?_
      refine WL_val rfl rfl rfl (R_neq rfl rfl rfl) ?_
      refine WL_val rfl rfl rfl (R_pickT rfl rfl rfl) ?_
      refine WL_nil ?_
      refine WQ_code ?_
      refine WC_dec rfl (fun c5 => ?_) (fun c5 => ?_)
      · obtain ⟨fr, hfr⟩ := (hd.t).h.free
        have hfew := hd.r.few hd.t.r
        have hroom : (live d.L).length < 1024 := by omega
        have hfr1 : fr ≤ 1000000000 := by have := hfr.le; have hwl : (wl d.L).length = (live d.L).length := List.length_map ..; omega
        have hcnt : cnt d.L fr ≤ 9000000000000000000 := by have := cnt_le d.L fr; have := (hd.t).r.ln; have := (hd.t).nb; omega
        refine WC_seq ?_
        refine WC_region ?_
        refine WL_val rfl rfl rfl (R_move rfl rfl) ?_
        refine WL_val rfl rfl rfl (R_nilCheck rfl rfl) ?_
        refine WL_val rfl rfl rfl (R_fieldAddr rfl fa70_1 rfl) ?_
        refine WL_do0 rfl rfl (D_store (vs := [_]) rfl Try.sizeOf4 rfl rfl rfl rfl rfl (by repeat (first | exact Pull.head | apply Pull.tail)) (by exact dl_room (by rw [List.length_set]; exact hlt) (by omega))) ?_
        rintro _ _ rfl
        have hput := dl_put (pc := d.pc) (pt := d.m.pt) ⟨(k : Nat), true, 0, 0⟩ (hs1) (j := 1) (vs := [.bool true]) (by simp) (by simp [putAt_cons, putAt_nil])
        rw [hput, List.set_set]
        have hs2 := set_eq (x := ⟨k, true, 0, 0⟩) hs
        refine WL_nil ?_
        refine WQ_code ?_
        refine WC_drawE (⟨some d.p, _⟩ :: tmH d.m) [(0, false), (1, false), (2, false), (3, false), (4, true)] [(5, true), (6, true), (7, true), (8, true), (9, true), (10, true), (11, true), (12, false), (13, true), (14, true), (15, true), (16, true), (17, true), (18, false)] followsMixed rfl rfl (by kernel_rfl) (by repeat (first | exact Pulls.nil | exact Pulls.all | (apply Pulls.cons; (repeat (first | exact Pull.head | apply Pull.tail))) | apply Pulls.skip)) ?_
        refine WZ_val rfl rfl rfl rfl (R_move rfl rfl) ?_
        refine WZ_val rfl rfl rfl rfl (R_move rfl rfl) ?_
        refine WZ_val rfl rfl rfl rfl (R_nilCheck rfl rfl) ?_
        refine WZ_val rfl rfl rfl rfl (R_fieldAddr rfl fa74_1 rfl) ?_
        refine WZ_early rfl rfl rfl rfl (R_load rfl sc66 rfl (by repeat (first | exact List.Mem.head _ | refine List.Mem.tail _ ?_)) rfl) ?_
        refine WZ_rest ?_
        refine WM_val rfl rfl rfl rfl (R_move rfl rfl) ?_
        refine WM_val rfl rfl rfl rfl (R_fieldAddr rfl fa24_0 rfl) ?_
        refine WM_val rfl rfl rfl rfl (R_load rfl sc3 rfl (by repeat (first | exact List.Mem.head _ | refine List.Mem.tail _ ?_)) rfl) ?_
        refine WM_val rfl rfl rfl rfl (R_mulR (r := ((2 * fd : Nat) : Int)) rfl rfl rfl (by rw [IntWalk.i64_in _ (by omega)]; omega)) ?_
        refine WM_val rfl rfl rfl rfl (R_fieldAddr rfl fa24_1 rfl) ?_
        refine WM_val rfl rfl rfl rfl (R_load rfl sc22 rfl (by repeat (first | exact List.Mem.head _ | refine List.Mem.tail _ ?_)) rfl) ?_
        refine WM_val rfl rfl rfl rfl (R_addR (r := ((2 * fd + dir : Nat) : Int)) rfl rfl rfl (by rw [IntWalk.i64_in _ (by omega)]; omega)) ?_
        refine WM_do rfl rfl rfl rfl (D_call (mset_ok d.L d.m hd.t hroom (by omega) fr hfr k (by omega) _) rfl rfl rfl rfl (by repeat (first | exact Pulls.nil | exact Pulls.all | (apply Pulls.cons; (repeat (first | exact Pull.head | apply Pull.tail))) | apply Pulls.skip))) ?_
        rintro _ _ ⟨_, ⟨m2, rfl, rfl, hmp2, hmn2, hm2⟩, rfl⟩
        refine ⟨⟨_, by repeat (first | exact Pulls.nil | exact Pulls.all | (apply Pulls.cons; (repeat (first | exact Pull.head | apply Pull.tail))) | apply Pulls.skip)⟩, ?_⟩
        rw [← hmp2]
        refine WM_val rfl rfl rfl rfl (R_move rfl rfl) ?_
        refine WM_val rfl rfl rfl rfl (R_extract rfl rfl rfl) ?_
        refine WM_val rfl rfl rfl rfl (R_extract rfl rfl rfl) ?_
        refine WM_val rfl rfl rfl rfl (R_nilCheck rfl rfl) ?_
        refine WM_val rfl rfl rfl rfl (R_fieldAddr rfl fa70_2 rfl) ?_
        refine WM_do0 rfl rfl rfl (D_store (vs := [_, _]) rfl Try.sizeOf68 rfl rfl rfl rfl rfl (by repeat (first | exact Pull.head | apply Pull.tail)) (by exact dl_room (by rw [List.length_set]; exact hlt) (by omega))) ?_
        rintro _ _ rfl
        refine ⟨⟨_, by repeat (first | exact Pulls.nil | exact Pulls.all | (apply Pulls.cons; (repeat (first | exact Pull.head | apply Pull.tail))) | apply Pulls.skip)⟩, ?_⟩
        have hput := dl_put (pc := d.pc) (pt := m2.pt) ⟨(k : Nat), true, fr, cnt d.L fr⟩ (hs2) (j := 2) (vs := [.int .i64 (fr : Int), .int .i64 (cnt d.L fr : Int)]) (by simp) (by simp [putAt_cons, putAt_nil])
        rw [hput, List.set_set]
        refine WM_nil ?_
        refine WQ_code ?_
        refine WC_seq ?_
        refine WC_region ?_
        refine WL_val rfl rfl rfl (R_move rfl rfl) ?_
        refine WL_val rfl rfl rfl (R_move rfl rfl) ?_
        refine WL_val rfl rfl rfl (R_nilCheck rfl rfl) ?_
        refine WL_val rfl rfl rfl (R_fieldAddr rfl fa74_0 rfl) ?_
        refine WL_val rfl rfl rfl (R_load rfl sc65 rfl (by repeat (first | exact List.Mem.head _ | refine List.Mem.tail _ ?_)) rfl) ?_
        refine WL_do rfl rfl rfl (D_call (vnow_ok d.pc now) rfl rfl rfl rfl (by repeat (first | exact Pulls.nil | exact Pulls.all | (apply Pulls.cons; (repeat (first | exact Pull.head | apply Pull.tail))) | apply Pulls.skip))) ?_
        rintro _ _ ⟨_, ⟨rfl, rfl⟩, rfl⟩
        refine WL_do rfl rfl rfl (D_call (passn_ok k now hd.r.nv) rfl rfl rfl rfl (by repeat (first | exact Pulls.nil | exact Pulls.all | (apply Pulls.cons; (repeat (first | exact Pull.head | apply Pull.tail))) | apply Pulls.skip))) ?_
        rintro _ _ ⟨_, ⟨rfl, rfl⟩, rfl⟩
        refine WL_val rfl rfl rfl (R_assign rfl rfl) ?_
        refine WL_val rfl rfl rfl (R_assign rfl rfl) ?_
        refine WL_nil ?_
        refine WQ_code ?_
        refine WC_ret ?_
        refine WQ_ret rfl rfl (.cons (.tmp rfl) (.cons (.tmp rfl) .nil)) rfl (by
            exact ⟨⟨d.p, d.pc, d.L ++ [⟨fr, cnt d.L fr, ((2 * fd + dir : Nat) : Int), k, false, d.m.g.n + 1⟩], d.S.set (2 * fd + dir) ⟨k, true, fr, cnt d.L fr⟩, m2⟩, rfl, rfl, rfl, by dsimp only; omega, ⟨hd.r.on hs (hd.r.cut0 hs hset) (by omega) (by omega) fr (cnt d.L fr) _ hfr1 hcnt, hm2⟩⟩) (by repeat (first | exact Pulls.nil | exact Pulls.all | (apply Pulls.cons; (repeat (first | exact Pull.head | apply Pull.tail))) | apply Pulls.skip))
      · refine WC_skip ?_
        refine WQ_code ?_
        refine WC_seq ?_
        refine WC_region ?_
        refine WL_val rfl rfl rfl (R_move rfl rfl) ?_
        refine WL_val rfl rfl rfl (R_move rfl rfl) ?_
        refine WL_val rfl rfl rfl (R_nilCheck rfl rfl) ?_
        refine WL_val rfl rfl rfl (R_fieldAddr rfl fa74_0 rfl) ?_
        refine WL_val rfl rfl rfl (R_load rfl sc65 rfl (by repeat (first | exact List.Mem.head _ | refine List.Mem.tail _ ?_)) rfl) ?_
        refine WL_do rfl rfl rfl (D_call (vnow_ok d.pc now) rfl rfl rfl rfl (by repeat (first | exact Pulls.nil | exact Pulls.all | (apply Pulls.cons; (repeat (first | exact Pull.head | apply Pull.tail))) | apply Pulls.skip))) ?_
        rintro _ _ ⟨_, ⟨rfl, rfl⟩, rfl⟩
        refine WL_do rfl rfl rfl (D_call (passn_ok k now hd.r.nv) rfl rfl rfl rfl (by repeat (first | exact Pulls.nil | exact Pulls.all | (apply Pulls.cons; (repeat (first | exact Pull.head | apply Pull.tail))) | apply Pulls.skip))) ?_
        rintro _ _ ⟨_, ⟨rfl, rfl⟩, rfl⟩
        refine WL_val rfl rfl rfl (R_assign rfl rfl) ?_
        refine WL_val rfl rfl rfl (R_assign rfl rfl) ?_
        refine WL_nil ?_
        refine WQ_code ?_
        refine WC_ret ?_
        refine WQ_ret rfl rfl (.cons (.tmp rfl) (.cons (.tmp rfl) .nil)) rfl (by
            exact ⟨⟨d.p, d.pc, d.L, d.S.set (2 * fd + dir) ⟨k, false, 0, 0⟩, d.m⟩, rfl, rfl, rfl, by dsimp only; omega, ⟨hd.r.off hs (hd.r.cut0 hs hset) hk (by omega), hd.t⟩⟩) (by repeat (first | exact Pulls.nil | exact Pulls.all | (apply Pulls.cons; (repeat (first | exact Pull.head | apply Pull.tail))) | apply Pulls.skip))
    · refine WL_skip rfl rfl rfl ?_
      refine WL_skip rfl rfl rfl ?_
      refine WL_val rfl rfl rfl (R_pickF rfl rfl rfl) ?_
      refine WL_nil ?_
      refine WQ_code ?_
      refine WC_F rfl ?_
      refine WC_skip ?_
      refine WQ_code ?_
      refine WC_seq ?_
      refine WC_region ?_
      refine WL_val rfl rfl rfl (R_move rfl rfl) ?_
      refine WL_val rfl rfl rfl (R_move rfl rfl) ?_
      refine WL_val rfl rfl rfl (R_nilCheck rfl rfl) ?_
      refine WL_val rfl rfl rfl (R_fieldAddr rfl fa74_0 rfl) ?_
      refine WL_val rfl rfl rfl (R_load rfl sc65 rfl (by repeat (first | exact List.Mem.head _ | refine List.Mem.tail _ ?_)) rfl) ?_
      refine WL_do rfl rfl rfl (D_call (vnow_ok d.pc now) rfl rfl rfl rfl (by repeat (first | exact Pulls.nil | exact Pulls.all | (apply Pulls.cons; (repeat (first | exact Pull.head | apply Pull.tail))) | apply Pulls.skip))) ?_
      rintro _ _ ⟨_, ⟨rfl, rfl⟩, rfl⟩
      refine WL_do rfl rfl rfl (D_call (passn_ok k now hd.r.nv) rfl rfl rfl rfl (by repeat (first | exact Pulls.nil | exact Pulls.all | (apply Pulls.cons; (repeat (first | exact Pull.head | apply Pull.tail))) | apply Pulls.skip))) ?_
      rintro _ _ ⟨_, ⟨rfl, rfl⟩, rfl⟩
      refine WL_val rfl rfl rfl (R_assign rfl rfl) ?_
      refine WL_val rfl rfl rfl (R_assign rfl rfl) ?_
      refine WL_nil ?_
      refine WQ_code ?_
      refine WC_ret ?_
      refine WQ_ret rfl rfl (.cons (.tmp rfl) (.cons (.tmp rfl) .nil)) rfl (by
          exact ⟨⟨d.p, d.pc, d.L, d.S.set (2 * fd + dir) ⟨k, false, 0, 0⟩, d.m⟩, rfl, rfl, rfl, by dsimp only; omega, ⟨hd.r.off hs (hd.r.cut0 hs hset) hk (by omega), hd.t⟩⟩) (by repeat (first | exact Pulls.nil | exact Pulls.all | (apply Pulls.cons; (repeat (first | exact Pull.head | apply Pull.tail))) | apply Pulls.skip))
theorem dget_bad (d : DM) (hd : DIs f now d) (fd dir : Int) (h : spotE fd dir = 2) : Spec Try.prog 12 [ptrH d.p, .agg #[.int .i64 (fd), .int .i64 (dir)]] (dlH now d) (fun r H' => r = .tuple #[.int .u64 0, .int .i64 2] ∧ H' = dlH now d) := by
  refine Spec.of (E := [(0, ptrH d.p), (1, .agg #[.int .i64 (fd), .int .i64 (dir)])]) Try.func12 rfl (by kernel_rfl) Try.ntmps12 rfl rfl (fun w => ?_)
  refine WC_seq ?_
  refine WC_region ?_
  refine WL_do rfl rfl rfl (D_box (cs := [_, _]) rfl rfl rfl) ?_
  rintro _ _ ⟨b1, rfl, rfl⟩
  refine WL_val rfl rfl rfl (R_assign rfl rfl) ?_
  refine WL_val rfl rfl rfl (R_assign rfl rfl) ?_
  refine WL_nil ?_
  refine WQ_code ?_
  refine WC_seq ?_
  refine WC_seq ?_
  refine WC_region ?_
  refine WL_val rfl rfl rfl (R_move rfl rfl) ?_
  refine WL_val rfl rfl rfl (R_loadA (vs := [_, _]) rfl ag24 rfl (by repeat (first | exact List.Mem.head _ | refine List.Mem.tail _ ?_)) rfl (by repeat (first | exact At.nil | refine At.cons ?_ | refine At.succ ?_))) ?_
  refine WL_do rfl rfl rfl (D_call (dcheck_ok d.p d.pc d.m.pt d.S fd dir) rfl rfl rfl rfl (by repeat (first | exact Pulls.nil | exact Pulls.all | (apply Pulls.cons; (repeat (first | exact Pull.head | apply Pull.tail))) | apply Pulls.skip))) ?_
  rintro _ _ ⟨_, ⟨rfl, rfl⟩, rfl⟩
  refine WL_val rfl rfl rfl (R_assign rfl rfl) ?_
  refine WL_nil ?_
  refine WQ_code ?_
  refine WC_seq ?_
  refine WC_region ?_
  refine WL_val rfl rfl rfl (R_move rfl rfl) ?_
  refine WL_val rfl rfl rfl (R_neq rfl rfl rfl) ?_
  refine WL_nil ?_
  refine WQ_code ?_
  refine WC_dT rfl (by rw [h]; simp) ?_
  refine WC_seq ?_
  refine WC_region ?_
  refine WL_val rfl rfl rfl (R_move rfl rfl) ?_
  refine WL_val rfl rfl rfl (R_assign rfl rfl) ?_
  refine WL_val rfl rfl rfl (R_assign rfl rfl) ?_
  refine WL_nil ?_
  refine WQ_code ?_
  refine WC_ret ?_
  refine WQ_ret rfl rfl (.cons (.tmp rfl) (.cons (.tmp rfl) .nil)) rfl (by
      exact ⟨by rw [h]; rfl, rfl⟩) (by repeat (first | exact Pulls.nil | exact Pulls.all | (apply Pulls.cons; (repeat (first | exact Pull.head | apply Pull.tail))) | apply Pulls.skip))
theorem dget_ok (d : DM) (hd : DIs f now d) (fd dir : Nat) (h1 : fd < 128) (h2 : dir < 2) : Spec Try.prog 12 [ptrH d.p, .agg #[.int .i64 (fd : Int), .int .i64 (dir : Int)]] (dlH now d) (fun r H' => r = .tuple #[.int .u64 (f (2 * fd + dir) : Int), .int .i64 0] ∧ H' = dlH now d) := by
  obtain ⟨s, hs⟩ : ∃ s, d.S[2 * fd + dir]? = some s := ⟨_, List.getElem?_eq_getElem (show 2 * fd + dir < d.S.length by rw [hd.r.len]; omega)⟩
  have hlen := hd.r.len
  have hlt : 2 * fd + dir < d.S.length := by omega
  have hsp : spotE (fd : Int) (dir : Int) = 0 := by unfold spotE; split <;> omega
  rw [← (hd.r.at_ _ s hs).1]
  refine Spec.of (E := [(0, ptrH d.p), (1, .agg #[.int .i64 (fd : Int), .int .i64 (dir : Int)])]) Try.func12 rfl (by kernel_rfl) Try.ntmps12 rfl rfl (fun w => ?_)
  refine WC_seq ?_
  refine WC_region ?_
  refine WL_do rfl rfl rfl (D_box (cs := [_, _]) rfl rfl rfl) ?_
  rintro _ _ ⟨b1, rfl, rfl⟩
  refine WL_val rfl rfl rfl (R_assign rfl rfl) ?_
  refine WL_val rfl rfl rfl (R_assign rfl rfl) ?_
  refine WL_nil ?_
  refine WQ_code ?_
  refine WC_seq ?_
  refine WC_seq ?_
  refine WC_region ?_
  refine WL_val rfl rfl rfl (R_move rfl rfl) ?_
  refine WL_val rfl rfl rfl (R_loadA (vs := [_, _]) rfl ag24 rfl (by repeat (first | exact List.Mem.head _ | refine List.Mem.tail _ ?_)) rfl (by repeat (first | exact At.nil | refine At.cons ?_ | refine At.succ ?_))) ?_
  refine WL_do rfl rfl rfl (D_call (dcheck_ok d.p d.pc d.m.pt d.S (fd : Int) (dir : Int)) rfl rfl rfl rfl (by repeat (first | exact Pulls.nil | exact Pulls.all | (apply Pulls.cons; (repeat (first | exact Pull.head | apply Pull.tail))) | apply Pulls.skip))) ?_
  rintro _ _ ⟨_, ⟨rfl, rfl⟩, rfl⟩
  refine WL_val rfl rfl rfl (R_assign rfl rfl) ?_
  refine WL_nil ?_
  refine WQ_code ?_
  refine WC_seq ?_
  refine WC_region ?_
  refine WL_val rfl rfl rfl (R_move rfl rfl) ?_
  refine WL_val rfl rfl rfl (R_neq rfl rfl rfl) ?_
  refine WL_nil ?_
  refine WQ_code ?_
  refine WC_dF rfl (by omega) ?_
  refine WC_skip ?_
  refine WQ_code ?_
  refine WC_seq ?_
  refine WC_draw _ [(0, true), (1, true), (2, true), (3, true), (4, true), (5, true), (6, true), (7, true), (8, true), (9, true), (10, true), (11, true), (12, true)] followsMixed rfl rfl (by kernel_rfl) .all ?_
  refine WM_val rfl rfl rfl rfl (R_move rfl rfl) ?_
  refine WM_val rfl rfl rfl rfl (R_fieldAddr rfl fa24_0 rfl) ?_
  refine WM_val rfl rfl rfl rfl (R_load rfl sc3 rfl (by repeat (first | exact List.Mem.head _ | refine List.Mem.tail _ ?_)) rfl) ?_
  refine WM_val rfl rfl rfl rfl (R_fieldAddr rfl fa24_1 rfl) ?_
  refine WM_val rfl rfl rfl rfl (R_load rfl sc22 rfl (by repeat (first | exact List.Mem.head _ | refine List.Mem.tail _ ?_)) rfl) ?_
  refine WM_val rfl rfl rfl rfl (R_nilCheck rfl rfl) ?_
  refine WM_val rfl rfl rfl rfl (R_fieldAddr rfl fa74_2 rfl) ?_
  refine WM_val rfl rfl rfl rfl (R_indexAddrAN rfl Try.underlying72 Try.sizeOf71 rfl rfl (by omega)) ?_
  refine WM_val rfl rfl rfl rfl (R_indexAddrAN rfl Try.underlying71 Try.sizeOf70 rfl rfl (by omega)) ?_
  refine WM_val rfl rfl rfl rfl (R_fieldAddr rfl fa70_0 rfl) ?_
  refine WM_val rfl rfl rfl rfl (R_load (v := .int .u64 (s.at_ : Int)) rfl sc26 rfl (by repeat (first | exact List.Mem.head _ | refine List.Mem.tail _ ?_)) (dl_get hs (j := 0) (by omega))) ?_
  refine WM_val rfl rfl rfl rfl (R_assign rfl rfl) ?_
  refine WM_val rfl rfl rfl rfl (R_assign rfl rfl) ?_
  refine WM_nil ?_
  refine WQ_code ?_
  refine WC_ret ?_
  refine WQ_ret rfl rfl (.cons (.tmp rfl) (.cons (.tmp rfl) .nil)) rfl (by
      exact ⟨rfl, rfl⟩) (by repeat (first | exact Pulls.nil | exact Pulls.all | (apply Pulls.cons; (repeat (first | exact Pull.head | apply Pull.tail))) | apply Pulls.skip))
theorem dpass_bad (d : DM) (hd : DIs f now d) (fd dir : Int) (h : spotE fd dir = 2) : Spec Try.prog 24 [ptrH d.p, .agg #[.int .i64 (fd), .int .i64 (dir)]] (dlH now d) (fun r H' => r = .tuple #[.bool false, .int .i64 2] ∧ H' = dlH now d) := by
  refine Spec.of (E := [(0, ptrH d.p), (1, .agg #[.int .i64 (fd), .int .i64 (dir)])]) Try.func24 rfl (by kernel_rfl) Try.ntmps24 rfl rfl (fun w => ?_)
  refine WC_seq ?_
  refine WC_region ?_
  refine WL_do rfl rfl rfl (D_box (cs := [_, _]) rfl rfl rfl) ?_
  rintro _ _ ⟨b1, rfl, rfl⟩
  refine WL_val rfl rfl rfl (R_assign rfl rfl) ?_
  refine WL_val rfl rfl rfl (R_assign rfl rfl) ?_
  refine WL_nil ?_
  refine WQ_code ?_
  refine WC_seq ?_
  refine WC_region ?_
  refine WL_val rfl rfl rfl (R_move rfl rfl) ?_
  refine WL_val rfl rfl rfl (R_loadA (vs := [_, _]) rfl ag24 rfl (by repeat (first | exact List.Mem.head _ | refine List.Mem.tail _ ?_)) rfl (by repeat (first | exact At.nil | refine At.cons ?_ | refine At.succ ?_))) ?_
  refine WL_do rfl rfl rfl (D_call (dget_bad d hd fd dir h) rfl rfl rfl rfl (by repeat (first | exact Pulls.nil | exact Pulls.all | (apply Pulls.cons; (repeat (first | exact Pull.head | apply Pull.tail))) | apply Pulls.skip))) ?_
  rintro _ _ ⟨_, ⟨rfl, rfl⟩, rfl⟩
  refine WL_val rfl rfl rfl (R_move rfl rfl) ?_
  refine WL_val rfl rfl rfl (R_extract rfl rfl rfl) ?_
  refine WL_val rfl rfl rfl (R_extract rfl rfl rfl) ?_
  refine WL_val rfl rfl rfl (R_assign rfl rfl) ?_
  refine WL_val rfl rfl rfl (R_assign rfl rfl) ?_
  refine WL_nil ?_
  refine WQ_code ?_
  refine WC_seq ?_
  refine WC_region ?_
  refine WL_val rfl rfl rfl (R_move rfl rfl) ?_
  refine WL_val rfl rfl rfl (R_eql rfl rfl rfl) ?_
  refine WL_val rfl rfl rfl (R_move rfl rfl) ?_
  refine WL_set (s := 16) (v := .bool false) rfl (by simp) ?_
  refine WL_skip rfl rfl rfl ?_
  refine WL_skip rfl rfl rfl ?_
  refine WL_skip rfl rfl rfl ?_
  refine WL_skip rfl rfl rfl ?_
  refine WL_skip rfl rfl rfl ?_
  refine WL_skip rfl rfl rfl ?_
  refine WL_skip rfl rfl rfl ?_
  refine WL_val rfl rfl rfl (R_pickF rfl rfl rfl) ?_
  refine WL_val rfl rfl rfl (R_move rfl rfl) ?_
  refine WL_val rfl rfl rfl (R_assign rfl rfl) ?_
  refine WL_val rfl rfl rfl (R_assign rfl rfl) ?_
  refine WL_nil ?_
  refine WQ_code ?_
  refine WC_ret ?_
  refine WQ_ret rfl rfl (.cons (.tmp rfl) (.cons (.tmp rfl) .nil)) rfl (by
      exact ⟨rfl, rfl⟩) (by repeat (first | exact Pulls.nil | exact Pulls.all | (apply Pulls.cons; (repeat (first | exact Pull.head | apply Pull.tail))) | apply Pulls.skip))
theorem dpass_ok (d : DM) (hd : DIs f now d) (fd dir : Nat) (h1 : fd < 128) (h2 : dir < 2) : Spec Try.prog 24 [ptrH d.p, .agg #[.int .i64 (fd : Int), .int .i64 (dir : Int)]] (dlH now d) (fun r H' => r = .tuple #[.bool (decide (f (2 * fd + dir) ≤ now)), .int .i64 0] ∧ H' = dlH now d) := by
  refine Spec.of (E := [(0, ptrH d.p), (1, .agg #[.int .i64 (fd : Int), .int .i64 (dir : Int)])]) Try.func24 rfl (by kernel_rfl) Try.ntmps24 rfl rfl (fun w => ?_)
  refine WC_seq ?_
  refine WC_region ?_
  refine WL_do rfl rfl rfl (D_box (cs := [_, _]) rfl rfl rfl) ?_
  rintro _ _ ⟨b1, rfl, rfl⟩
  refine WL_val rfl rfl rfl (R_assign rfl rfl) ?_
  refine WL_val rfl rfl rfl (R_assign rfl rfl) ?_
  refine WL_nil ?_
  refine WQ_code ?_
  refine WC_seq ?_
  refine WC_region ?_
  refine WL_val rfl rfl rfl (R_move rfl rfl) ?_
  refine WL_val rfl rfl rfl (R_loadA (vs := [_, _]) rfl ag24 rfl (by repeat (first | exact List.Mem.head _ | refine List.Mem.tail _ ?_)) rfl (by repeat (first | exact At.nil | refine At.cons ?_ | refine At.succ ?_))) ?_
  refine WL_do rfl rfl rfl (D_call (dget_ok d hd fd dir h1 h2) rfl rfl rfl rfl (by repeat (first | exact Pulls.nil | exact Pulls.all | (apply Pulls.cons; (repeat (first | exact Pull.head | apply Pull.tail))) | apply Pulls.skip))) ?_
  rintro _ _ ⟨_, ⟨rfl, rfl⟩, rfl⟩
  refine WL_val rfl rfl rfl (R_move rfl rfl) ?_
  refine WL_val rfl rfl rfl (R_extract rfl rfl rfl) ?_
  refine WL_val rfl rfl rfl (R_extract rfl rfl rfl) ?_
  refine WL_val rfl rfl rfl (R_assign rfl rfl) ?_
  refine WL_val rfl rfl rfl (R_assign rfl rfl) ?_
  refine WL_nil ?_
  refine WQ_code ?_
  refine WC_seq ?_
  refine WC_region ?_
  refine WL_val rfl rfl rfl (R_move rfl rfl) ?_
  refine WL_val rfl rfl rfl (R_eql rfl rfl rfl) ?_
  refine WL_val rfl rfl rfl (R_move rfl rfl) ?_
  refine WL_set (s := 16) (v := .bool true) rfl (by simp) ?_
  refine WL_val rfl rfl rfl (R_move rfl rfl) ?_
  refine WL_val rfl rfl rfl (R_move rfl rfl) ?_
  refine WL_val rfl rfl rfl (R_nilCheck rfl rfl) ?_
  refine WL_val rfl rfl rfl (R_fieldAddr rfl fa74_0 rfl) ?_
  refine WL_val rfl rfl rfl (R_load rfl sc65 rfl (by repeat (first | exact List.Mem.head _ | refine List.Mem.tail _ ?_)) rfl) ?_
  refine WL_do rfl rfl rfl (D_call (vnow_ok d.pc now) rfl rfl rfl rfl (by repeat (first | exact Pulls.nil | exact Pulls.all | (apply Pulls.cons; (repeat (first | exact Pull.head | apply Pull.tail))) | apply Pulls.skip))) ?_
  rintro _ _ ⟨_, ⟨rfl, rfl⟩, rfl⟩
  refine WL_do rfl rfl rfl (D_call (passn_ok _ now hd.r.nv) rfl rfl rfl rfl (by repeat (first | exact Pulls.nil | exact Pulls.all | (apply Pulls.cons; (repeat (first | exact Pull.head | apply Pull.tail))) | apply Pulls.skip))) ?_
  rintro _ _ ⟨_, ⟨rfl, rfl⟩, rfl⟩
  refine WL_val rfl rfl rfl (R_pickT rfl rfl rfl) ?_
  refine WL_val rfl rfl rfl (R_move rfl rfl) ?_
  refine WL_val rfl rfl rfl (R_assign rfl rfl) ?_
  refine WL_val rfl rfl rfl (R_assign rfl rfl) ?_
  refine WL_nil ?_
  refine WQ_code ?_
  refine WC_ret ?_
  refine WQ_ret rfl rfl (.cons (.tmp rfl) (.cons (.tmp rfl) .nil)) rfl (by
      exact ⟨rfl, rfl⟩) (by repeat (first | exact Pulls.nil | exact Pulls.all | (apply Pulls.cons; (repeat (first | exact Pull.head | apply Pull.tail))) | apply Pulls.skip))
def clrF (f : Nat → Nat) (fd : Nat) : Nat → Nat → Nat
  | 0 => f
  | j + 1 => updF (clrF f fd j) (2 * fd + j) 18446744073709551615
structure DjW where
  j : Nat
  d : DM
theorem dclear_bad (d : DM) (hd : DIs f now d) (fd : Int) (h : fileE fd = 2) : Spec Try.prog 25 [ptrH d.p, .int .i64 fd] (dlH now d) (fun r H' => r = .int .i64 2 ∧ H' = dlH now d) := by
  refine Spec.of (E := [(0, ptrH d.p), (1, .int .i64 fd)]) Try.func25 rfl (by kernel_rfl) Try.ntmps25 rfl rfl (fun w => ?_)
  refine WC_seq ?_
  refine WC_region ?_
  refine WL_val rfl rfl rfl (R_assign rfl rfl) ?_
  refine WL_nil ?_
  refine WQ_code ?_
  refine WC_seq ?_
  refine WC_seq ?_
  refine WC_region ?_
  refine WL_val rfl rfl rfl (R_move rfl rfl) ?_
  refine WL_val rfl rfl rfl (R_move rfl rfl) ?_
  refine WL_do rfl rfl rfl (D_call (dfile_ok d.p d.pc d.m.pt d.S fd) rfl rfl rfl rfl (by repeat (first | exact Pulls.nil | exact Pulls.all | (apply Pulls.cons; (repeat (first | exact Pull.head | apply Pull.tail))) | apply Pulls.skip))) ?_
  rintro _ _ ⟨_, ⟨rfl, rfl⟩, rfl⟩
  refine WL_val rfl rfl rfl (R_assign rfl rfl) ?_
  refine WL_nil ?_
  refine WQ_code ?_
  refine WC_seq ?_
  refine WC_region ?_
  refine WL_val rfl rfl rfl (R_move rfl rfl) ?_
  refine WL_val rfl rfl rfl (R_neq rfl rfl rfl) ?_
  refine WL_nil ?_
  refine WQ_code ?_
  refine WC_dT rfl (by rw [h]; simp) ?_
  refine WC_seq ?_
  refine WC_region ?_
  refine WL_val rfl rfl rfl (R_move rfl rfl) ?_
  refine WL_val rfl rfl rfl (R_assign rfl rfl) ?_
  refine WL_nil ?_
  refine WQ_code ?_
  refine WC_ret ?_
  refine WQ_ret rfl rfl (.cons (.tmp rfl) .nil) rfl (by
      exact ⟨by rw [h]; rfl, rfl⟩) (by repeat (first | exact Pulls.nil | exact Pulls.all | (apply Pulls.cons; (repeat (first | exact Pull.head | apply Pull.tail))) | apply Pulls.skip))
theorem dclear_ok (d : DM) (hd : DIs f now d) (fd : Nat) (h1 : fd < 128) (hb : d.m.g.n + 2 < 9000000000000000000) : Spec Try.prog 25 [ptrH d.p, .int .i64 (fd : Int)] (dlH now d) (fun r H' => ∃ d' : DM, r = .int .i64 0 ∧ H' = dlH now d' ∧ d'.p = d.p ∧ d'.m.g.n ≤ d.m.g.n + 2 ∧ DIs (clrF f fd 2) now d') := by
  refine Spec.of (E := [(0, ptrH d.p), (1, .int .i64 (fd : Int))]) Try.func25 rfl (by kernel_rfl) Try.ntmps25 rfl rfl (fun w => ?_)
  refine WC_seq ?_
  refine WC_region ?_
  refine WL_val rfl rfl rfl (R_assign rfl rfl) ?_
  refine WL_nil ?_
  refine WQ_code ?_
  refine WC_seq ?_
  refine WC_seq ?_
  refine WC_region ?_
  refine WL_val rfl rfl rfl (R_move rfl rfl) ?_
  refine WL_val rfl rfl rfl (R_move rfl rfl) ?_
  refine WL_do rfl rfl rfl (D_call (dfile_ok d.p d.pc d.m.pt d.S (fd : Int)) rfl rfl rfl rfl (by repeat (first | exact Pulls.nil | exact Pulls.all | (apply Pulls.cons; (repeat (first | exact Pull.head | apply Pull.tail))) | apply Pulls.skip))) ?_
  rintro _ _ ⟨_, ⟨rfl, rfl⟩, rfl⟩
  refine WL_val rfl rfl rfl (R_assign rfl rfl) ?_
  refine WL_nil ?_
  refine WQ_code ?_
  refine WC_seq ?_
  refine WC_region ?_
  refine WL_val rfl rfl rfl (R_move rfl rfl) ?_
  refine WL_val rfl rfl rfl (R_neq rfl rfl rfl) ?_
  refine WL_nil ?_
  refine WQ_code ?_
  refine WC_dF rfl (by unfold fileE; split <;> omega) ?_
  refine WC_skip ?_
  refine WQ_code ?_
  refine WC_seq ?_
  refine WC_seq ?_
  refine WC_region ?_
  refine WL_val rfl rfl rfl (R_assign rfl rfl) ?_
  refine WL_nil ?_
  refine WQ_code ?_
  refine WC_block ?_
  refine WC_loopF (G := DjW) [6, 13, 14, 15, 16, 17, 18, 19, 20, 21] (fun y => y.j ≤ 2 ∧ DIs (clrF f fd y.j) now y.d ∧ y.d.p = d.p ∧ y.d.m.g.n ≤ d.m.g.n + y.j) (fun y => [(6, .int .i64 (y.j : Int))]) (fun y => dlH now y.d) (fun y => 2 - y.j) (⟨0, d⟩) (⟨Nat.zero_le _, hd, rfl, Nat.le_refl _⟩) (Le.lq (by repeat (first | exact Le.nil | refine Le.cons rfl (by first | rfl | (congr 1; omega)) ?_))) (by repeat (first | exact Pulls.nil | exact Pulls.all | (apply Pulls.cons; (repeat (first | exact Pull.head | apply Pull.tail))) | apply Pulls.skip)) ?_
  rintro y ⟨hyj, hy, hyp, hyn⟩
  rw [← hyp]
  refine WC_seq ?_
  refine WC_seq ?_
  refine WC_region ?_
  refine WL_val rfl rfl rfl (R_move rfl rfl) ?_
  refine WL_val rfl rfl rfl (R_leq rfl rfl rfl) ?_
  refine WL_nil ?_
  refine WQ_code ?_
  refine WC_dec rfl (fun c1 => ?_) (fun c1 => ?_)
  · refine WC_skip ?_
    refine WQ_code ?_
    refine WC_seq ?_
    refine WC_block ?_
    refine WC_region ?_
    refine WL_val rfl rfl rfl (R_move rfl rfl) ?_
    refine WL_val rfl rfl rfl (R_move rfl rfl) ?_
    refine WL_val rfl rfl rfl (R_move rfl rfl) ?_
    refine WL_val rfl rfl rfl (R_build rfl zv24 pl24 rfl rfl) ?_
    refine WL_do rfl rfl rfl (D_call (dset_ok y.d hy fd y.j h1 (by omega) 18446744073709551615 (Nat.le_refl _) (by omega)) rfl rfl rfl rfl (by repeat (first | exact Pulls.nil | exact Pulls.all | (apply Pulls.cons; (repeat (first | exact Pull.head | apply Pull.tail))) | apply Pulls.skip))) ?_
    rintro _ _ ⟨_, ⟨d', rfl, rfl, hdp, hdn, hd'⟩, rfl⟩
    refine WL_nil ?_
    refine WQ_code ?_
    refine WC_region ?_
    refine WL_val rfl rfl rfl (R_move rfl rfl) ?_
    refine WL_val rfl rfl rfl (R_add rfl rfl rfl (by omega)) ?_
    refine WL_val rfl rfl rfl (R_assign rfl rfl) ?_
    refine WL_nil ?_
    rw [← hdp]
    refine WQ_nextF (⟨y.j + 1, d'⟩) (⟨by dsimp only; omega, hd', rfl, by dsimp only; omega⟩) (by dsimp only; omega) (Le.lq (by repeat (first | exact Le.nil | refine Le.cons rfl (by first | rfl | (congr 1; omega)) ?_))) (by repeat (first | exact Pushed.refl | refine Pushed.push rfl ?_)) rfl (by repeat (first | exact Pulls.nil | exact Pulls.all | (apply Pulls.cons; (repeat (first | exact Pull.head | apply Pull.tail))) | apply Pulls.skip))
  · refine WC_exit ?_
    refine WQ_code ?_
    refine WC_seq ?_
    refine WC_region ?_
    refine WL_val rfl rfl rfl (R_assign rfl rfl) ?_
    refine WL_nil ?_
    refine WQ_code ?_
    refine WC_ret ?_
    refine WQ_ret rfl rfl (.cons (.tmp rfl) .nil) rfl (by
        have hj2 : y.j = 2 := by omega
        exact ⟨y.d, rfl, rfl, rfl, by omega, by rw [← hj2]; exact hy⟩) (by repeat (first | exact Pulls.nil | exact Pulls.all | (apply Pulls.cons; (repeat (first | exact Pull.head | apply Pull.tail))) | apply Pulls.skip))
theorem dnext_ok (d : DM) (hd : DIs f now d) : Spec Try.prog 13 [ptrH d.p] (dlH now d) (fun r H' => r = .int .u64 (nxtL d.L : Int) ∧ H' = dlH now d) := by
  refine Spec.of (E := [(0, ptrH d.p)]) Try.func13 rfl (by kernel_rfl) Try.ntmps13 rfl rfl (fun w => ?_)
  refine WC_seq ?_
  refine WC_region ?_
  refine WL_val rfl rfl rfl (R_assign rfl rfl) ?_
  refine WL_nil ?_
  refine WQ_code ?_
  refine WC_seq ?_
  refine WC_seq ?_
  refine WC_region ?_
  refine WL_val rfl rfl rfl (R_move rfl rfl) ?_
  refine WL_do rfl rfl rfl (D_call (dzero_ok d.p d.pc d.m.pt d.S) rfl rfl rfl rfl (by repeat (first | exact Pulls.nil | exact Pulls.all | (apply Pulls.cons; (repeat (first | exact Pull.head | apply Pull.tail))) | apply Pulls.skip))) ?_
  rintro _ _ ⟨_, ⟨rfl, rfl⟩, rfl⟩
  refine WL_nil ?_
  refine WQ_code ?_
  refine WC_F rfl ?_
  refine WC_skip ?_
  refine WQ_code ?_
  refine WC_seq ?_
  refine WC_region ?_
  refine WL_val rfl rfl rfl (R_move rfl rfl) ?_
  refine WL_val rfl rfl rfl (R_nilCheck rfl rfl) ?_
  refine WL_val rfl rfl rfl (R_fieldAddr rfl fa74_1 rfl) ?_
  refine WL_val rfl rfl rfl (R_load rfl sc66 rfl (by repeat (first | exact List.Mem.head _ | refine List.Mem.tail _ ?_)) rfl) ?_
  refine WL_do rfl rfl rfl (D_call (mnext_ok d.L d.m hd.t) rfl rfl rfl rfl (by repeat (first | exact Pulls.nil | exact Pulls.all | (apply Pulls.cons; (repeat (first | exact Pull.head | apply Pull.tail))) | apply Pulls.skip))) ?_
  rintro _ _ ⟨_, ⟨rfl, rfl⟩, rfl⟩
  refine WL_val rfl rfl rfl (R_assign rfl rfl) ?_
  refine WL_nil ?_
  refine WQ_code ?_
  refine WC_ret ?_
  refine WQ_ret rfl rfl (.cons (.tmp rfl) .nil) rfl (by
      exact ⟨rfl, rfl⟩) (by repeat (first | exact Pulls.nil | exact Pulls.all | (apply Pulls.cons; (repeat (first | exact Pull.head | apply Pull.tail))) | apply Pulls.skip))
theorem dnow_ok (d : DM) (hd : DIs f now d) : Spec Try.prog 26 [ptrH d.p] (dlH now d) (fun r H' => r = .int .u64 (now : Int) ∧ H' = dlH now d) := by
  refine Spec.of (E := [(0, ptrH d.p)]) Try.func26 rfl (by kernel_rfl) Try.ntmps26 rfl rfl (fun w => ?_)
  refine WC_seq ?_
  refine WC_region ?_
  refine WL_val rfl rfl rfl (R_assign rfl rfl) ?_
  refine WL_nil ?_
  refine WQ_code ?_
  refine WC_seq ?_
  refine WC_seq ?_
  refine WC_region ?_
  refine WL_val rfl rfl rfl (R_move rfl rfl) ?_
  refine WL_do rfl rfl rfl (D_call (dzero_ok d.p d.pc d.m.pt d.S) rfl rfl rfl rfl (by repeat (first | exact Pulls.nil | exact Pulls.all | (apply Pulls.cons; (repeat (first | exact Pull.head | apply Pull.tail))) | apply Pulls.skip))) ?_
  rintro _ _ ⟨_, ⟨rfl, rfl⟩, rfl⟩
  refine WL_nil ?_
  refine WQ_code ?_
  refine WC_F rfl ?_
  refine WC_skip ?_
  refine WQ_code ?_
  refine WC_seq ?_
  refine WC_region ?_
  refine WL_val rfl rfl rfl (R_move rfl rfl) ?_
  refine WL_val rfl rfl rfl (R_nilCheck rfl rfl) ?_
  refine WL_val rfl rfl rfl (R_fieldAddr rfl fa74_0 rfl) ?_
  refine WL_val rfl rfl rfl (R_load rfl sc65 rfl (by repeat (first | exact List.Mem.head _ | refine List.Mem.tail _ ?_)) rfl) ?_
  refine WL_do rfl rfl rfl (D_call (vnow_ok d.pc now) rfl rfl rfl rfl (by repeat (first | exact Pulls.nil | exact Pulls.all | (apply Pulls.cons; (repeat (first | exact Pull.head | apply Pull.tail))) | apply Pulls.skip))) ?_
  rintro _ _ ⟨_, ⟨rfl, rfl⟩, rfl⟩
  refine WL_val rfl rfl rfl (R_assign rfl rfl) ?_
  refine WL_nil ?_
  refine WQ_code ?_
  refine WC_ret ?_
  refine WQ_ret rfl rfl (.cons (.tmp rfl) .nil) rfl (by
      exact ⟨rfl, rfl⟩) (by repeat (first | exact Pulls.nil | exact Pulls.all | (apply Pulls.cons; (repeat (first | exact Pull.head | apply Pull.tail))) | apply Pulls.skip))
theorem dcopy_ok (d : DM) (hd : DIs f now d) : Spec Try.prog 27 [ptrH d.p] (dlH now d) (fun r H' => ∃ d' : DM, r = ptrH d'.p ∧ H' = dlH now d' ++ dlH now d ∧ d'.m.g.n = d.m.g.n ∧ DIs f now d') := by
  have hln : (d.S.flatMap encSl).length = 1024 := by rw [fm_length encSl4, hd.r.len]
  refine Spec.of (E := [(0, ptrH d.p)]) Try.func27 rfl (by kernel_rfl) Try.ntmps27 rfl rfl (fun w => ?_)
  refine WC_seq ?_
  refine WC_region ?_
  refine WL_val rfl rfl rfl (R_assign rfl rfl) ?_
  refine WL_nil ?_
  refine WQ_code ?_
  refine WC_seq ?_
  refine WC_seq ?_
  refine WC_region ?_
  refine WL_val rfl rfl rfl (R_move rfl rfl) ?_
  refine WL_do rfl rfl rfl (D_call (dzero_ok d.p d.pc d.m.pt d.S) rfl rfl rfl rfl (by repeat (first | exact Pulls.nil | exact Pulls.all | (apply Pulls.cons; (repeat (first | exact Pull.head | apply Pull.tail))) | apply Pulls.skip))) ?_
  rintro _ _ ⟨_, ⟨rfl, rfl⟩, rfl⟩
  refine WL_nil ?_
  refine WQ_code ?_
  refine WC_F rfl ?_
  refine WC_skip ?_
  refine WQ_code ?_
  refine WC_seq ?_
  refine WC_draw _ [(0, true), (1, true), (2, true), (3, true), (5, true), (6, true), (7, true), (8, true), (10, true), (11, true), (12, true), (13, true), (4, false), (9, false), (14, true), (15, false), (16, true)] followsMixed rfl rfl (by kernel_rfl) .all ?_
  refine WM_val rfl rfl rfl rfl (R_move rfl rfl) ?_
  refine WM_val rfl rfl rfl rfl (R_nilCheck rfl rfl) ?_
  refine WM_val rfl rfl rfl rfl (R_fieldAddr rfl fa74_0 rfl) ?_
  refine WM_val rfl rfl rfl rfl (R_load rfl sc65 rfl (by repeat (first | exact List.Mem.head _ | refine List.Mem.tail _ ?_)) rfl) ?_
  refine WM_val rfl rfl rfl rfl (R_move rfl rfl) ?_
  refine WM_val rfl rfl rfl rfl (R_nilCheck rfl rfl) ?_
  refine WM_val rfl rfl rfl rfl (R_fieldAddr rfl fa74_1 rfl) ?_
  refine WM_val rfl rfl rfl rfl (R_load rfl sc66 rfl (by repeat (first | exact List.Mem.head _ | refine List.Mem.tail _ ?_)) rfl) ?_
  refine WM_val rfl rfl rfl rfl (R_move rfl rfl) ?_
  refine WM_val rfl rfl rfl rfl (R_nilCheck rfl rfl) ?_
  refine WM_val rfl rfl rfl rfl (R_fieldAddr rfl fa74_2 rfl) ?_
  refine WM_val rfl rfl rfl rfl (R_loadA (vs := d.S.flatMap encSl) rfl ag72 rfl (by repeat (first | exact List.Mem.head _ | refine List.Mem.tail _ ?_)) hln (by intro m v hm; rw [show 0 + 2 + m = m + 1 + 1 from by omega]; exact hm)) ?_
  refine WM_do rfl rfl rfl rfl (D_call (vcopy_ok d.pc now) rfl rfl rfl rfl (by repeat (first | exact Pulls.nil | exact Pulls.all | (apply Pulls.cons; (repeat (first | exact Pull.head | apply Pull.tail))) | apply Pulls.skip))) ?_
  rintro _ _ ⟨_, ⟨p2, rfl, rfl⟩, rfl⟩
  refine ⟨⟨_, by repeat (first | exact Pulls.nil | exact Pulls.all | (apply Pulls.cons; (repeat (first | exact Pull.head | apply Pull.tail))) | apply Pulls.skip)⟩, ?_⟩
  refine WM_do rfl rfl rfl rfl (D_call (mcopy_ok d.L d.m hd.t) rfl rfl rfl rfl (by repeat (first | exact Pulls.nil | exact Pulls.all | (apply Pulls.cons; (repeat (first | exact Pull.head | apply Pull.tail))) | apply Pulls.skip))) ?_
  rintro _ _ ⟨_, ⟨m', rfl, rfl, hmn, hm'⟩, rfl⟩
  refine ⟨⟨_, by repeat (first | exact Pulls.nil | exact Pulls.all | (apply Pulls.cons; (repeat (first | exact Pull.head | apply Pull.tail))) | apply Pulls.skip)⟩, ?_⟩
  refine WM_val rfl rfl rfl rfl (R_build (cs := ptrH p2 :: ptrH m'.pt :: d.S.flatMap encSl) rfl (nw_zero ▸ zv74) pl74 rfl (fill3 (show ((nwS 0).flatMap encSl).length = 1024 by rw [fm_length encSl4, nw_len 0 (by omega)]) hln)) ?_
  refine WM_do rfl rfl rfl rfl (D_box (cs := dlV p2 m'.pt d.S) rfl rfl rfl) ?_
  rintro _ _ ⟨b1, rfl, rfl⟩
  refine ⟨⟨_, by repeat (first | exact Pulls.nil | exact Pulls.all | (apply Pulls.cons; (repeat (first | exact Pull.head | apply Pull.tail))) | apply Pulls.skip)⟩, ?_⟩
  refine WM_val rfl rfl rfl rfl (R_assign rfl rfl) ?_
  refine WM_nil ?_
  refine WQ_code ?_
  refine WC_ret ?_
  refine WQ_ret rfl rfl (.cons (.tmp rfl) .nil) rfl (by
      exact ⟨⟨b1, p2, d.L, d.S, m'⟩, rfl, rfl, hmn, ⟨hd.r, hm'⟩⟩) (by repeat (first | exact Pulls.nil | exact Pulls.all | (apply Pulls.cons; (repeat (first | exact Pull.head | apply Pull.tail))) | apply Pulls.skip))
end

end Go.Proofs.Ytnkpefonocggfaa
