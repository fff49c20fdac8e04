/-
  Chapter 10 (deadline), part DeadM: contracts of functions that the laws call, each for the heap it names.
-/
import Derived.Test.YtnkpefonocggfaaRows
import Derived.Test.YtnkpefonocggfaaSLPhase
import Derived.Test.YtnkpefonocggfaaSLInt
import Derived.Test.YtnkpefonocggfaaTab
import Derived.Test.YtnkpefonocggfaaDeadL
import Derived.Test.YtnkpefonocggfaaSLMore
import Derived.Test.YtnkpefonocggfaaCmp
set_option linter.unusedVariables false
set_option maxRecDepth 20000
set_option maxHeartbeats 1000000
namespace Go.Proofs.Ytnkpefonocggfaa


abbrev dlV (pc pt : Nat) (S : List Sl) : List Value := ptrH pc :: ptrH pt :: S.flatMap encSl
structure DM where
  p : Nat
  pc : Nat
  L : List Tm
  S : List Sl
  m : TmM
abbrev dlH (now : Nat) (d : DM) : Heap := ⟨some d.p, cl (dlV d.pc d.m.pt d.S) 74⟩ :: ⟨some d.pc, cl [.bool true, .int .u64 (now : Int)] 113⟩ :: tmH d.m
structure DIs (f : Nat → Nat) (now : Nat) (d : DM) : Prop where
  r : DRel f now d.L d.S
  t : TIs d.L d.m
theorem dl_get {pc pt fd dir j : Nat} {S : List Sl} {s : Sl} (h : S[2 * fd + dir]? = some s) (hj : j < 4) : (dlV pc pt S)[0 + 2 + fd * 8 + dir * 4 + j]? = (encSl s)[j]? := by
  have := fm_get encSl4 h hj []
  rw [List.append_nil] at this
  rw [← this, show 0 + 2 + fd * 8 + dir * 4 + j = (2 * fd + dir) * 4 + j + 1 + 1 from by omega]
  rfl
theorem dl_at {pc pt fd dir j : Nat} {S : List Sl} {s : Sl} {vs : List Value} (h : S[2 * fd + dir]? = some s) (hv : At (encSl s) j vs) (hj : j + vs.length ≤ 4) : At (dlV pc pt S) (0 + 2 + fd * 8 + dir * 4 + j) vs := by
  intro m v hm
  have hl := (List.getElem?_eq_some_iff.1 hm).1
  rw [Nat.add_assoc, dl_get h (by omega)]
  exact hv m v hm
theorem dl_put {pc pt fd dir j : Nat} {S : List Sl} {s : Sl} (y : Sl) {vs : List Value} (h : S[2 * fd + dir]? = some s) (hj : j + vs.length ≤ 4) (hy : putAt (encSl s) j vs = encSl y) : putAt (dlV pc pt S) (0 + 2 + fd * 8 + dir * 4 + j) vs = dlV pc pt (S.set (2 * fd + dir) y) := by
  have h1 := fm_put encSl4 h hj hy []
  rw [List.append_nil, List.append_nil] at h1
  have h2 := putAt_append [ptrH pc, ptrH pt] (S.flatMap encSl) ((2 * fd + dir) * 4 + j) vs
  rw [h1] at h2
  rw [show 0 + 2 + fd * 8 + dir * 4 + j = [ptrH pc, ptrH pt].length + ((2 * fd + dir) * 4 + j) from by simp only [List.length_cons, List.length_nil]; omega]
  exact h2
theorem dl_len (pc pt : Nat) (S : List Sl) : (dlV pc pt S).length = 2 + S.length * 4 := by
  rw [List.length_cons, List.length_cons, fm_length encSl4]; omega
theorem dl_room {pc pt fd dir j n : Nat} {S : List Sl} (h : 2 * fd + dir < S.length) (hj : j + n ≤ 4) : 0 + 2 + fd * 8 + dir * 4 + j + n ≤ (dlV pc pt S).length := by
  rw [dl_len]; omega
theorem fill2 {a b : Value} {x y n : Nat} {tl : List Value} : fillL (a :: b :: tl) [(0, 1), (1, 1), (2, n)] [(0, ptrH x), (1, ptrH y)] = some (ptrH x :: ptrH y :: tl) := by
  have b1 : Nat.ble 1 (tl.length + 1 + 1) = true := Nat.ble_eq_true_of_le (by omega)
  have b2 : Nat.ble 2 (tl.length + 1 + 1) = true := Nat.ble_eq_true_of_le (by omega)
  simp [fillL, Value.cells, putAt_cons, putAt_nil, b1, b2]
theorem fill3 {a b : Value} {x y n : Nat} {tl S : List Value} (h1 : tl.length = n) (h2 : S.length = n) : fillL (a :: b :: tl) [(0, 1), (1, 1), (2, n)] [(0, ptrH x), (1, ptrH y), (2, .agg S.toArray)] = some (ptrH x :: ptrH y :: S) := by
  have h3 := putAt_append [ptrH x, ptrH y] tl 0 S
  rw [putAt_eq tl 0 S (by omega)] at h3
  simp only [List.take_zero, List.nil_append, Nat.zero_add] at h3
  rw [List.drop_eq_nil_of_le (by omega), List.append_nil] at h3
  have h4 : putAt (ptrH x :: ptrH y :: tl) 2 S = ptrH x :: ptrH y :: S := h3
  have b1 : Nat.ble 1 (n + 1 + 1) = true := Nat.ble_eq_true_of_le (by omega)
  have b2 : Nat.ble 2 (n + 1 + 1) = true := Nat.ble_eq_true_of_le (by omega)
  have b3 : Nat.ble (2 + n) (n + 1 + 1) = true := Nat.ble_eq_true_of_le (by omega)
  simp [fillL, Value.cells, putAt_cons, putAt_nil, h1, h2, h4, b1, b2, b3]
theorem rep_add {α : Type} (a b : Nat) (x : α) : List.replicate (a + b) x = List.replicate a x ++ List.replicate b x := by simp
def nwS (i : Nat) : List Sl := List.replicate (2 * i) ⟨18446744073709551615, false, 0, 0⟩ ++ List.replicate (256 - 2 * i) ⟨0, false, 0, 0⟩
theorem nw_put {pc pt i : Nat} (h : i < 128) : putAt (dlV pc pt (nwS i)) (0 + 2 + i * 8) [.int .u64 18446744073709551615, .bool false, .int .i64 0, .int .i64 0, .int .u64 18446744073709551615, .bool false, .int .i64 0, .int .i64 0] = dlV pc pt (nwS (i + 1)) := by
  have e1 : nwS i = List.replicate (2 * i) ⟨18446744073709551615, false, 0, 0⟩ ++ ([⟨0, false, 0, 0⟩, ⟨0, false, 0, 0⟩] ++ List.replicate (254 - 2 * i) ⟨0, false, 0, 0⟩) := by
    rw [nwS, show 256 - 2 * i = 2 + (254 - 2 * i) from by omega, rep_add]; rfl
  have e2 : nwS (i + 1) = List.replicate (2 * i) ⟨18446744073709551615, false, 0, 0⟩ ++ ([⟨18446744073709551615, false, 0, 0⟩, ⟨18446744073709551615, false, 0, 0⟩] ++ List.replicate (254 - 2 * i) ⟨0, false, 0, 0⟩) := by
    rw [nwS, show 2 * (i + 1) = 2 * i + 2 from by omega, rep_add, List.append_assoc, show 256 - (2 * i + 2) = 254 - 2 * i from by omega]; rfl
  have e3 : ∀ B : List Sl, dlV pc pt (List.replicate (2 * i) ⟨18446744073709551615, false, 0, 0⟩ ++ B) = ([ptrH pc, ptrH pt] ++ (List.replicate (2 * i) (⟨18446744073709551615, false, 0, 0⟩ : Sl)).flatMap encSl) ++ B.flatMap encSl := fun B => by
    simp only [dlV, List.flatMap_append, List.cons_append, List.nil_append]
  have e4 : ([ptrH pc, ptrH pt] ++ (List.replicate (2 * i) (⟨18446744073709551615, false, 0, 0⟩ : Sl)).flatMap encSl).length = 0 + 2 + i * 8 := by
    rw [List.length_append, fm_length encSl4, List.length_replicate]; simp only [List.length_cons, List.length_nil]; omega
  rw [e1, e2, e3, e3]
  have h5 := putAt_append ([ptrH pc, ptrH pt] ++ (List.replicate (2 * i) (⟨18446744073709551615, false, 0, 0⟩ : Sl)).flatMap encSl) (([⟨0, false, 0, 0⟩, ⟨0, false, 0, 0⟩] ++ List.replicate (254 - 2 * i) ⟨0, false, 0, 0⟩ : List Sl).flatMap encSl) 0 [.int .u64 18446744073709551615, .bool false, .int .i64 0, .int .i64 0, .int .u64 18446744073709551615, .bool false, .int .i64 0, .int .i64 0]
  rw [e4, Nat.add_zero] at h5
  rw [h5]; simp [putAt_cons, putAt_nil]
theorem rep_two (a : List Value) : ∀ n, (List.replicate n (a ++ a)).flatten = (List.replicate (2 * n) a).flatten
  | 0 => rfl
  | n + 1 => by rw [List.replicate_succ, List.flatten_cons, rep_two a n, show 2 * (n + 1) = 2 * n + 1 + 1 from by omega, List.replicate_succ, List.replicate_succ, List.flatten_cons, List.flatten_cons, List.append_assoc]
theorem nw_zero : (List.replicate 128 [Value.int .u64 0, .bool false, .int .i64 0, .int .i64 0, .int .u64 0, .bool false, .int .i64 0, .int .i64 0]).flatten = (nwS 0).flatMap encSl := by
  have h := rep_two (encSl ⟨0, false, 0, 0⟩) 128
  rw [fm_rep (enc := encSl)] at h
  exact h
theorem nw_len (i : Nat) (h : i ≤ 128) : (nwS i).length = 256 := by rw [nwS, List.length_append, List.length_replicate, List.length_replicate]; omega
theorem nw_all : nwS 128 = List.replicate 256 ⟨18446744073709551615, false, 0, 0⟩ := by rw [nwS, show 256 - 2 * 128 = 0 from rfl, List.replicate_zero, List.append_nil]
/-! vtime -/
theorem vnew_ok (now : Nat) (h : now < 18446744073709551615) : Spec Try.prog 28 [.int .u64 (now : Int)] [] (fun r H' => ∃ pc, r = .tuple #[ptrH pc, .int .i64 0] ∧ H' = [⟨some pc, cl [.bool true, .int .u64 (now : Int)] 113⟩]) := by
  refine Spec.of (E := [(0, .int .u64 (now : Int))]) Try.func28 rfl (by kernel_rfl) Try.ntmps28 rfl rfl (fun w => ?_)
  refine WC_seq ?_
  refine WC_region ?_
  refine WL_val rfl rfl rfl (R_assign rfl rfl) ?_
  refine WL_val rfl rfl rfl (R_assign rfl rfl) ?_
  refine WL_nil ?_
  refine WQ_code ?_
  refine WC_seq ?_
  refine WC_seq ?_
  refine WC_region ?_
  refine WL_val rfl rfl rfl (R_move rfl rfl) ?_
  refine WL_val rfl rfl rfl (R_eql rfl rfl rfl) ?_
  refine WL_nil ?_
  refine WQ_code ?_
  refine WC_dF rfl (by omega) ?_
  refine WC_skip ?_
  refine WQ_code ?_
  refine WC_seq ?_
  refine WC_region ?_
  refine WL_val rfl rfl rfl (R_move rfl rfl) ?_
  refine WL_val rfl rfl rfl (R_build rfl zv113 pl113 rfl rfl) ?_
  refine WL_do rfl rfl rfl (D_box (cs := [_, _]) rfl rfl rfl) ?_
  rintro _ _ ⟨b1, rfl, rfl⟩
  refine WL_val rfl rfl rfl (R_assign rfl rfl) ?_
  refine WL_val rfl rfl rfl (R_assign rfl rfl) ?_
  refine WL_nil ?_
  refine WQ_code ?_
  refine WC_ret ?_
  refine WQ_ret rfl rfl (.cons (.tmp rfl) (.cons (.tmp rfl) .nil)) rfl (by
      exact ⟨b1, rfl, rfl⟩) (by repeat (first | exact Pulls.nil | exact Pulls.all | (apply Pulls.cons; (repeat (first | exact Pull.head | apply Pull.tail))) | apply Pulls.skip))
theorem vnew_bad : Spec Try.prog 28 [.int .u64 18446744073709551615] [] (fun r H' => r = .tuple #[.pointer none, .int .i64 2] ∧ H' = []) := by
  refine Spec.of (E := [(0, .int .u64 18446744073709551615)]) Try.func28 rfl (by kernel_rfl) Try.ntmps28 rfl rfl (fun w => ?_)
  refine WC_seq ?_
  refine WC_region ?_
  refine WL_val rfl rfl rfl (R_assign rfl rfl) ?_
  refine WL_val rfl rfl rfl (R_assign rfl rfl) ?_
  refine WL_nil ?_
  refine WQ_code ?_
  refine WC_seq ?_
  refine WC_seq ?_
  refine WC_region ?_
  refine WL_val rfl rfl rfl (R_move rfl rfl) ?_
  refine WL_val rfl rfl rfl (R_eql rfl rfl rfl) ?_
  refine WL_nil ?_
  refine WQ_code ?_
  refine WC_dT rfl (by rfl) ?_
  refine WC_seq ?_
  refine WC_region ?_
  refine WL_val rfl rfl rfl (R_assign rfl rfl) ?_
  refine WL_val rfl rfl rfl (R_assign rfl rfl) ?_
  refine WL_nil ?_
  refine WQ_code ?_
  refine WC_ret ?_
  refine WQ_ret rfl rfl (.cons (.tmp rfl) (.cons (.tmp rfl) .nil)) rfl (by
      exact ⟨rfl, rfl⟩) (by repeat (first | exact Pulls.nil | exact Pulls.all | (apply Pulls.cons; (repeat (first | exact Pull.head | apply Pull.tail))) | apply Pulls.skip))
theorem vnow_ok (pc now : Nat) : Spec Try.prog 34 [ptrH pc] [⟨some pc, cl [.bool true, .int .u64 (now : Int)] 113⟩] (fun r H' => r = .int .u64 (now : Int) ∧ H' = [⟨some pc, cl [.bool true, .int .u64 (now : Int)] 113⟩]) := by
  refine Spec.of (E := [(0, ptrH pc)]) Try.func34 rfl (by kernel_rfl) Try.ntmps34 rfl rfl (fun w => ?_)
  refine WC_seq ?_
  refine WC_region ?_
  refine WL_val rfl rfl rfl (R_assign rfl rfl) ?_
  refine WL_nil ?_
  refine WQ_code ?_
  refine WC_seq ?_
  refine WC_seq ?_
  refine WC_region ?_
  refine WL_val rfl rfl rfl (R_move rfl rfl) ?_
  refine WL_val rfl rfl rfl (R_ptrEqNil rfl Try.underlying65 rfl) ?_
  refine WL_nil ?_
  refine WQ_code ?_
  refine WC_F rfl ?_
  refine WC_skip ?_
  refine WQ_code ?_
  refine WC_seq ?_
  refine WC_region ?_
  refine WL_val rfl rfl rfl (R_move rfl rfl) ?_
  refine WL_val rfl rfl rfl (R_nilCheck rfl rfl) ?_
  refine WL_val rfl rfl rfl (R_fieldAddr rfl fa113_1 rfl) ?_
  refine WL_val rfl rfl rfl (R_load rfl sc26 rfl (by repeat (first | exact List.Mem.head _ | refine List.Mem.tail _ ?_)) rfl) ?_
  refine WL_val rfl rfl rfl (R_assign rfl rfl) ?_
  refine WL_nil ?_
  refine WQ_code ?_
  refine WC_ret ?_
  refine WQ_ret rfl rfl (.cons (.tmp rfl) .nil) rfl (by
      exact ⟨rfl, rfl⟩) (by repeat (first | exact Pulls.nil | exact Pulls.all | (apply Pulls.cons; (repeat (first | exact Pull.head | apply Pull.tail))) | apply Pulls.skip))
theorem vadv_ok (pc now to : Nat) (h1 : now ≤ to) (h2 : to < 18446744073709551615) : Spec Try.prog 38 [ptrH pc, .int .u64 (to : Int)] [⟨some pc, cl [.bool true, .int .u64 (now : Int)] 113⟩] (fun r H' => r = .int .i64 0 ∧ H' = [⟨some pc, cl [.bool true, .int .u64 (to : Int)] 113⟩]) := by
  refine Spec.of (E := [(0, ptrH pc), (1, .int .u64 (to : Int))]) Try.func38 rfl (by kernel_rfl) Try.ntmps38 rfl rfl (fun w => ?_)
  refine WC_seq ?_
  refine WC_region ?_
  refine WL_val rfl rfl rfl (R_assign rfl rfl) ?_
  refine WL_nil ?_
  refine WQ_code ?_
  refine WC_seq ?_
  refine WC_block ?_
  refine WC_seq ?_
  refine WC_region ?_
  refine WL_val rfl rfl rfl (R_move rfl rfl) ?_
  refine WL_val rfl rfl rfl (R_ptrEqNil rfl Try.underlying65 rfl) ?_
  refine WL_val rfl rfl rfl (R_move rfl rfl) ?_
  refine WL_val rfl rfl rfl (R_move rfl rfl) ?_
  refine WL_val rfl rfl rfl (R_nilCheck rfl rfl) ?_
  refine WL_val rfl rfl rfl (R_fieldAddr rfl fa113_0 rfl) ?_
  refine WL_val rfl rfl rfl (R_load rfl sc4 rfl (by repeat (first | exact List.Mem.head _ | refine List.Mem.tail _ ?_)) rfl) ?_
  refine WL_val rfl rfl rfl (R_not rfl rfl) ?_
  refine WL_val rfl rfl rfl (R_pickF rfl rfl rfl) ?_
  refine WL_val rfl rfl rfl (R_assign rfl rfl) ?_
  refine WL_nil ?_
  refine WQ_code ?_
  refine WC_F rfl ?_
  refine WC_seq ?_
  refine WC_region ?_
  refine WL_val rfl rfl rfl (R_move rfl rfl) ?_
  refine WL_val rfl rfl rfl (R_eql rfl rfl rfl) ?_
  refine WL_val rfl rfl rfl (R_assign rfl rfl) ?_
  refine WL_nil ?_
  refine WQ_code ?_
  refine WC_dF rfl (by omega) ?_
  refine WC_seq ?_
  refine WC_region ?_
  refine WL_val rfl rfl rfl (R_move rfl rfl) ?_
  refine WL_val rfl rfl rfl (R_move rfl rfl) ?_
  refine WL_val rfl rfl rfl (R_nilCheck rfl rfl) ?_
  refine WL_val rfl rfl rfl (R_fieldAddr rfl fa113_1 rfl) ?_
  refine WL_val rfl rfl rfl (R_load rfl sc26 rfl (by repeat (first | exact List.Mem.head _ | refine List.Mem.tail _ ?_)) rfl) ?_
  refine WL_val rfl rfl rfl (R_lss rfl rfl rfl) ?_
  refine WL_val rfl rfl rfl (R_assign rfl rfl) ?_
  refine WL_nil ?_
  refine WQ_code ?_
  refine WC_dF rfl (by omega) ?_
  refine WC_skip ?_
  refine WQ_code ?_
  refine WC_seq ?_
  refine WC_region ?_
  refine WL_val rfl rfl rfl (R_move rfl rfl) ?_
  refine WL_val rfl rfl rfl (R_move rfl rfl) ?_
  refine WL_val rfl rfl rfl (R_nilCheck rfl rfl) ?_
  refine WL_val rfl rfl rfl (R_fieldAddr rfl fa113_1 rfl) ?_
  refine WL_do0 rfl rfl (D_store (vs := [_]) rfl Try.sizeOf26 rfl rfl rfl rfl rfl (by repeat (first | exact Pull.head | apply Pull.tail)) (by exact Nat.le_of_ble_eq_true rfl)) ?_
  rintro _ _ rfl
  refine WL_nil ?_
  refine WQ_code ?_
  refine WC_seq ?_
  refine WC_region ?_
  refine WL_val rfl rfl rfl (R_assign rfl rfl) ?_
  refine WL_nil ?_
  refine WQ_code ?_
  refine WC_ret ?_
  refine WQ_ret rfl rfl (.cons (.tmp rfl) .nil) rfl (by
      exact ⟨rfl, rfl⟩) (by repeat (first | exact Pulls.nil | exact Pulls.all | (apply Pulls.cons; (repeat (first | exact Pull.head | apply Pull.tail))) | apply Pulls.skip))
theorem vadv_never (pc now : Nat) : Spec Try.prog 38 [ptrH pc, .int .u64 18446744073709551615] [⟨some pc, cl [.bool true, .int .u64 (now : Int)] 113⟩] (fun r H' => r = .int .i64 2 ∧ H' = [⟨some pc, cl [.bool true, .int .u64 (now : Int)] 113⟩]) := by
  refine Spec.of (E := [(0, ptrH pc), (1, .int .u64 18446744073709551615)]) Try.func38 rfl (by kernel_rfl) Try.ntmps38 rfl rfl (fun w => ?_)
  refine WC_seq ?_
  refine WC_region ?_
  refine WL_val rfl rfl rfl (R_assign rfl rfl) ?_
  refine WL_nil ?_
  refine WQ_code ?_
  refine WC_seq ?_
  refine WC_block ?_
  refine WC_seq ?_
  refine WC_region ?_
  refine WL_val rfl rfl rfl (R_move rfl rfl) ?_
  refine WL_val rfl rfl rfl (R_ptrEqNil rfl Try.underlying65 rfl) ?_
  refine WL_val rfl rfl rfl (R_move rfl rfl) ?_
  refine WL_val rfl rfl rfl (R_move rfl rfl) ?_
  refine WL_val rfl rfl rfl (R_nilCheck rfl rfl) ?_
  refine WL_val rfl rfl rfl (R_fieldAddr rfl fa113_0 rfl) ?_
  refine WL_val rfl rfl rfl (R_load rfl sc4 rfl (by repeat (first | exact List.Mem.head _ | refine List.Mem.tail _ ?_)) rfl) ?_
  refine WL_val rfl rfl rfl (R_not rfl rfl) ?_
  refine WL_val rfl rfl rfl (R_pickF rfl rfl rfl) ?_
  refine WL_val rfl rfl rfl (R_assign rfl rfl) ?_
  refine WL_nil ?_
  refine WQ_code ?_
  refine WC_F rfl ?_
  refine WC_seq ?_
  refine WC_region ?_
  refine WL_val rfl rfl rfl (R_move rfl rfl) ?_
  refine WL_val rfl rfl rfl (R_eql rfl rfl rfl) ?_
  refine WL_val rfl rfl rfl (R_assign rfl rfl) ?_
  refine WL_nil ?_
  refine WQ_code ?_
  refine WC_dT rfl (by rfl) ?_
  refine WC_seq ?_
  refine WC_region ?_
  refine WL_val rfl rfl rfl (R_assign rfl rfl) ?_
  refine WL_nil ?_
  refine WQ_code ?_
  refine WC_ret ?_
  refine WQ_ret rfl rfl (.cons (.tmp rfl) .nil) rfl (by
      exact ⟨rfl, rfl⟩) (by repeat (first | exact Pulls.nil | exact Pulls.all | (apply Pulls.cons; (repeat (first | exact Pull.head | apply Pull.tail))) | apply Pulls.skip))
theorem vadv_past (pc now to : Nat) (h1 : to < now) (h2 : to < 18446744073709551615) : Spec Try.prog 38 [ptrH pc, .int .u64 (to : Int)] [⟨some pc, cl [.bool true, .int .u64 (now : Int)] 113⟩] (fun r H' => r = .int .i64 3 ∧ H' = [⟨some pc, cl [.bool true, .int .u64 (now : Int)] 113⟩]) := by
  refine Spec.of (E := [(0, ptrH pc), (1, .int .u64 (to : Int))]) Try.func38 rfl (by kernel_rfl) Try.ntmps38 rfl rfl (fun w => ?_)
  refine WC_seq ?_
  refine WC_region ?_
  refine WL_val rfl rfl rfl (R_assign rfl rfl) ?_
  refine WL_nil ?_
  refine WQ_code ?_
  refine WC_seq ?_
  refine WC_block ?_
  refine WC_seq ?_
  refine WC_region ?_
  refine WL_val rfl rfl rfl (R_move rfl rfl) ?_
  refine WL_val rfl rfl rfl (R_ptrEqNil rfl Try.underlying65 rfl) ?_
  refine WL_val rfl rfl rfl (R_move rfl rfl) ?_
  refine WL_val rfl rfl rfl (R_move rfl rfl) ?_
  refine WL_val rfl rfl rfl (R_nilCheck rfl rfl) ?_
  refine WL_val rfl rfl rfl (R_fieldAddr rfl fa113_0 rfl) ?_
  refine WL_val rfl rfl rfl (R_load rfl sc4 rfl (by repeat (first | exact List.Mem.head _ | refine List.Mem.tail _ ?_)) rfl) ?_
  refine WL_val rfl rfl rfl (R_not rfl rfl) ?_
  refine WL_val rfl rfl rfl (R_pickF rfl rfl rfl) ?_
  refine WL_val rfl rfl rfl (R_assign rfl rfl) ?_
  refine WL_nil ?_
  refine WQ_code ?_
  refine WC_F rfl ?_
  refine WC_seq ?_
  refine WC_region ?_
  refine WL_val rfl rfl rfl (R_move rfl rfl) ?_
  refine WL_val rfl rfl rfl (R_eql rfl rfl rfl) ?_
  refine WL_val rfl rfl rfl (R_assign rfl rfl) ?_
  refine WL_nil ?_
  refine WQ_code ?_
  refine WC_dF rfl (by omega) ?_
  refine WC_seq ?_
  refine WC_region ?_
  refine WL_val rfl rfl rfl (R_move rfl rfl) ?_
  refine WL_val rfl rfl rfl (R_move rfl rfl) ?_
  refine WL_val rfl rfl rfl (R_nilCheck rfl rfl) ?_
  refine WL_val rfl rfl rfl (R_fieldAddr rfl fa113_1 rfl) ?_
  refine WL_val rfl rfl rfl (R_load rfl sc26 rfl (by repeat (first | exact List.Mem.head _ | refine List.Mem.tail _ ?_)) rfl) ?_
  refine WL_val rfl rfl rfl (R_lss rfl rfl rfl) ?_
  refine WL_val rfl rfl rfl (R_assign rfl rfl) ?_
  refine WL_nil ?_
  refine WQ_code ?_
  refine WC_dT rfl (by omega) ?_
  refine WC_seq ?_
  refine WC_region ?_
  refine WL_val rfl rfl rfl (R_assign rfl rfl) ?_
  refine WL_nil ?_
  refine WQ_code ?_
  refine WC_ret ?_
  refine WQ_ret rfl rfl (.cons (.tmp rfl) .nil) rfl (by
      exact ⟨rfl, rfl⟩) (by repeat (first | exact Pulls.nil | exact Pulls.all | (apply Pulls.cons; (repeat (first | exact Pull.head | apply Pull.tail))) | apply Pulls.skip))
theorem vcopy_ok (pc now : Nat) : Spec Try.prog 53 [ptrH pc] [⟨some pc, cl [.bool true, .int .u64 (now : Int)] 113⟩] (fun r H' => ∃ p2, r = ptrH p2 ∧ H' = [⟨some p2, cl [.bool true, .int .u64 (now : Int)] 113⟩, ⟨some pc, cl [.bool true, .int .u64 (now : Int)] 113⟩]) := by
  refine Spec.of (E := [(0, ptrH pc)]) Try.func53 rfl (by kernel_rfl) Try.ntmps53 rfl rfl (fun w => ?_)
  refine WC_seq ?_
  refine WC_region ?_
  refine WL_val rfl rfl rfl (R_assign rfl rfl) ?_
  refine WL_nil ?_
  refine WQ_code ?_
  refine WC_seq ?_
  refine WC_seq ?_
  refine WC_region ?_
  refine WL_val rfl rfl rfl (R_move rfl rfl) ?_
  refine WL_val rfl rfl rfl (R_ptrEqNil rfl Try.underlying65 rfl) ?_
  refine WL_val rfl rfl rfl (R_move rfl rfl) ?_
  refine WL_val rfl rfl rfl (R_move rfl rfl) ?_
  refine WL_val rfl rfl rfl (R_nilCheck rfl rfl) ?_
  refine WL_val rfl rfl rfl (R_fieldAddr rfl fa113_0 rfl) ?_
  refine WL_val rfl rfl rfl (R_load rfl sc4 rfl (by repeat (first | exact List.Mem.head _ | refine List.Mem.tail _ ?_)) rfl) ?_
  refine WL_val rfl rfl rfl (R_not rfl rfl) ?_
  refine WL_val rfl rfl rfl (R_pickF rfl rfl rfl) ?_
  refine WL_nil ?_
  refine WQ_code ?_
  refine WC_F rfl ?_
  refine WC_skip ?_
  refine WQ_code ?_
  refine WC_seq ?_
  refine WC_region ?_
  refine WL_val rfl rfl rfl (R_move rfl rfl) ?_
  refine WL_val rfl rfl rfl (R_nilCheck rfl rfl) ?_
  refine WL_val rfl rfl rfl (R_loadA (vs := [_, _]) rfl ag113 rfl (by repeat (first | exact List.Mem.head _ | refine List.Mem.tail _ ?_)) rfl (by repeat (first | exact At.nil | refine At.cons ?_ | refine At.succ ?_))) ?_
  refine WL_do rfl rfl rfl (D_alloc rfl zv113) ?_
  rintro _ _ ⟨b1, rfl, rfl⟩
  refine WL_do0 rfl rfl (D_store (vs := [_, _]) rfl Try.sizeOf113 rfl rfl rfl rfl rfl (by repeat (first | exact Pull.head | apply Pull.tail)) (by exact Nat.le_of_ble_eq_true rfl)) ?_
  rintro _ _ rfl
  refine WL_nil ?_
  refine WQ_code ?_
  refine WC_seq ?_
  refine WC_region ?_
  refine WL_val rfl rfl rfl (R_assign rfl rfl) ?_
  refine WL_nil ?_
  refine WQ_code ?_
  refine WC_ret ?_
  refine WQ_ret rfl rfl (.cons (.tmp rfl) .nil) rfl (by
      exact ⟨b1, rfl, rfl⟩) (by repeat (first | exact Pulls.nil | exact Pulls.all | (apply Pulls.cons; (repeat (first | exact Pull.head | apply Pull.tail))) | apply Pulls.skip))
theorem passn_ok (a b : Nat) (hb : b < 18446744073709551615) : Spec Try.prog 36 [.int .u64 (a : Int), .int .u64 (b : Int)] [] (fun r H' => r = .bool (decide (a ≤ b)) ∧ H' = []) :=
  (passed_ok a b).mono fun r H' ⟨e1, e2⟩ => ⟨by rw [e1]; congr 1; rw [decide_eq_decide]; omega, e2⟩
theorem mstop_at (L : List Tm) (m : TmM) (ht : TIs L m) (t : Tm) (hm : t ∈ L) (hg : t.gone = false) (k gen : Nat) (h1 : t.n = k) (h2 : t.gen = gen) : Spec Try.prog 33 [ptrH m.pt, .agg #[.int .i64 (k : Int), .int .i64 (gen : Int)]] (tmH m) (fun r H' => ∃ m' : TmM, r = .int .i64 0 ∧ H' = tmH m' ∧ m'.pt = m.pt ∧ m'.g.n = m.g.n ∧ TIs (rmL L t.n) m') := by
  subst h1 h2
  exact mstop_ok L m ht t hm hg
/-! the parts -/
theorem dzero_ok (p pc pt : Nat) (S : List Sl) : Spec Try.prog 31 [ptrH p] [⟨some p, cl (dlV pc pt S) 74⟩] (fun r H' => r = .bool false ∧ H' = [⟨some p, cl (dlV pc pt S) 74⟩]) := by
  refine Spec.of (E := [(0, ptrH p)]) Try.func31 rfl (by kernel_rfl) Try.ntmps31 rfl rfl (fun w => ?_)
  refine WC_seq ?_
  refine WC_region ?_
  refine WL_val rfl rfl rfl (R_assign rfl rfl) ?_
  refine WL_nil ?_
  refine WQ_code ?_
  refine WC_seq ?_
  refine WC_region ?_
  refine WL_val rfl rfl rfl (R_move rfl rfl) ?_
  refine WL_val rfl rfl rfl (R_ptrEqNil rfl Try.underlying30 rfl) ?_
  refine WL_val rfl rfl rfl (R_move rfl rfl) ?_
  refine WL_val rfl rfl rfl (R_move rfl rfl) ?_
  refine WL_val rfl rfl rfl (R_nilCheck rfl rfl) ?_
  refine WL_val rfl rfl rfl (R_fieldAddr rfl fa74_0 rfl) ?_
  refine WL_val rfl rfl rfl (R_load rfl sc65 rfl (by repeat (first | exact List.Mem.head _ | refine List.Mem.tail _ ?_)) rfl) ?_
  refine WL_val rfl rfl rfl (R_ptrEqNil rfl Try.underlying65 rfl) ?_
  refine WL_val rfl rfl rfl (R_pickF rfl rfl rfl) ?_
  refine WL_val rfl rfl rfl (R_assign rfl rfl) ?_
  refine WL_nil ?_
  refine WQ_code ?_
  refine WC_ret ?_
  refine WQ_ret rfl rfl (.cons (.tmp rfl) .nil) rfl (by
      exact ⟨rfl, rfl⟩) (by repeat (first | exact Pulls.nil | exact Pulls.all | (apply Pulls.cons; (repeat (first | exact Pull.head | apply Pull.tail))) | apply Pulls.skip))
theorem dzero_nil : Spec Try.prog 31 [.pointer none] [] (fun r H' => r = .bool true ∧ H' = []) := by
  refine Spec.of (E := [(0, .pointer none)]) Try.func31 rfl (by kernel_rfl) Try.ntmps31 rfl rfl (fun w => ?_)
  refine WC_seq ?_
  refine WC_region ?_
  refine WL_val rfl rfl rfl (R_assign rfl rfl) ?_
  refine WL_nil ?_
  refine WQ_code ?_
  refine WC_seq ?_
  refine WC_region ?_
  refine WL_val rfl rfl rfl (R_move rfl rfl) ?_
  refine WL_val rfl rfl rfl (R_ptrEqNil rfl Try.underlying30 rfl) ?_
  refine WL_val rfl rfl rfl (R_move rfl rfl) ?_
  refine WL_skip rfl rfl rfl ?_
  refine WL_skip rfl rfl rfl ?_
  refine WL_skip rfl rfl rfl ?_
  refine WL_skip rfl rfl rfl ?_
  refine WL_skip rfl rfl rfl ?_
  refine WL_val rfl rfl rfl (R_pickT rfl rfl rfl) ?_
  refine WL_val rfl rfl rfl (R_assign rfl rfl) ?_
  refine WL_nil ?_
  refine WQ_code ?_
  refine WC_ret ?_
  refine WQ_ret rfl rfl (.cons (.tmp rfl) .nil) rfl (by
      exact ⟨rfl, rfl⟩) (by repeat (first | exact Pulls.nil | exact Pulls.all | (apply Pulls.cons; (repeat (first | exact Pull.head | apply Pull.tail))) | apply Pulls.skip))
theorem dzero_zero (p : Nat) (tl : List Value) : Spec Try.prog 31 [ptrH p] [⟨some p, cl (.pointer none :: tl) 74⟩] (fun r H' => r = .bool true ∧ H' = [⟨some p, cl (.pointer none :: tl) 74⟩]) := by
  refine Spec.of (E := [(0, ptrH p)]) Try.func31 rfl (by kernel_rfl) Try.ntmps31 rfl rfl (fun w => ?_)
  refine WC_seq ?_
  refine WC_region ?_
  refine WL_val rfl rfl rfl (R_assign rfl rfl) ?_
  refine WL_nil ?_
  refine WQ_code ?_
  refine WC_seq ?_
  refine WC_region ?_
  refine WL_val rfl rfl rfl (R_move rfl rfl) ?_
  refine WL_val rfl rfl rfl (R_ptrEqNil rfl Try.underlying30 rfl) ?_
  refine WL_val rfl rfl rfl (R_move rfl rfl) ?_
  refine WL_val rfl rfl rfl (R_move rfl rfl) ?_
  refine WL_val rfl rfl rfl (R_nilCheck rfl rfl) ?_
  refine WL_val rfl rfl rfl (R_fieldAddr rfl fa74_0 rfl) ?_
  refine WL_val rfl rfl rfl (R_load rfl sc65 rfl (by repeat (first | exact List.Mem.head _ | refine List.Mem.tail _ ?_)) rfl) ?_
  refine WL_val rfl rfl rfl (R_ptrEqNil rfl Try.underlying65 rfl) ?_
  refine WL_val rfl rfl rfl (R_pickF rfl rfl rfl) ?_
  refine WL_val rfl rfl rfl (R_assign rfl rfl) ?_
  refine WL_nil ?_
  refine WQ_code ?_
  refine WC_ret ?_
  refine WQ_ret rfl rfl (.cons (.tmp rfl) .nil) rfl (by
      exact ⟨rfl, rfl⟩) (by repeat (first | exact Pulls.nil | exact Pulls.all | (apply Pulls.cons; (repeat (first | exact Pull.head | apply Pull.tail))) | apply Pulls.skip))
def fileE (fd : Int) : Int := if 0 ≤ fd ∧ fd < 128 then 0 else 2
def spotE (fd dir : Int) : Int := if 0 ≤ fd ∧ fd < 128 ∧ (dir = 0 ∨ dir = 1) then 0 else 2
theorem dfile_ok (p pc pt : Nat) (S : List Sl) (fd : Int) : Spec Try.prog 52 [ptrH p, .int .i64 fd] [⟨some p, cl (dlV pc pt S) 74⟩] (fun r H' => r = .int .i64 (fileE fd) ∧ H' = [⟨some p, cl (dlV pc pt S) 74⟩]) := by
  refine Spec.of (E := [(0, ptrH p), (1, .int .i64 fd)]) Try.func52 rfl (by kernel_rfl) Try.ntmps52 rfl rfl (fun w => ?_)
  refine WC_seq ?_
  refine WC_region ?_
  refine WL_val rfl rfl rfl (R_assign rfl rfl) ?_
  refine WL_nil ?_
  refine WQ_code ?_
  refine WC_seq ?_
  refine WC_block ?_
  refine WC_seq ?_
  refine WC_region ?_
  refine WL_val rfl rfl rfl (R_move rfl rfl) ?_
  refine WL_do rfl rfl rfl (D_call (dzero_ok p pc pt S) rfl rfl rfl rfl (by repeat (first | exact Pulls.nil | exact Pulls.all | (apply Pulls.cons; (repeat (first | exact Pull.head | apply Pull.tail))) | apply Pulls.skip))) ?_
  rintro _ _ ⟨_, ⟨rfl, rfl⟩, rfl⟩
  refine WL_val rfl rfl rfl (R_assign rfl rfl) ?_
  refine WL_nil ?_
  refine WQ_code ?_
  refine WC_F rfl ?_
  refine WC_seq ?_
  refine WC_region ?_
  refine WL_val rfl rfl rfl (R_move rfl rfl) ?_
  refine WL_val rfl rfl rfl (R_lss rfl rfl rfl) ?_
  refine WL_val rfl rfl rfl (R_move rfl rfl) ?_
  refine WL_splitD (s := 11) rfl (fun c1 => ?_) (fun c1 => ?_)
  · refine WL_skip rfl rfl rfl ?_
    refine WL_skip rfl rfl rfl ?_
    refine WL_val rfl rfl rfl (R_pickT rfl rfl rfl) ?_
    refine WL_val rfl rfl rfl (R_assign rfl rfl) ?_
    refine WL_nil ?_
    refine WQ_code ?_
    refine WC_T rfl ?_
    refine WC_seq ?_
    refine WC_region ?_
    refine WL_val rfl rfl rfl (R_assign rfl rfl) ?_
    refine WL_nil ?_
    refine WQ_code ?_
    refine WC_ret ?_
    refine WQ_ret rfl rfl (.cons (.tmp rfl) .nil) rfl (by
        exact ⟨congrArg (Value.int .i64) (by unfold fileE; split <;> omega), rfl⟩) (by repeat (first | exact Pulls.nil | exact Pulls.all | (apply Pulls.cons; (repeat (first | exact Pull.head | apply Pull.tail))) | apply Pulls.skip))
  · refine WL_val rfl rfl rfl (R_move rfl rfl) ?_
    refine WL_val rfl rfl rfl (R_geq rfl rfl rfl) ?_
    refine WL_val rfl rfl rfl (R_pickF rfl rfl rfl) ?_
    refine WL_val rfl rfl rfl (R_assign rfl rfl) ?_
    refine WL_nil ?_
    refine WQ_code ?_
    refine WC_dec rfl (fun c2 => ?_) (fun c2 => ?_)
    · refine WC_seq ?_
      refine WC_region ?_
      refine WL_val rfl rfl rfl (R_assign rfl rfl) ?_
      refine WL_nil ?_
      refine WQ_code ?_
      refine WC_ret ?_
      refine WQ_ret rfl rfl (.cons (.tmp rfl) .nil) rfl (by
          exact ⟨congrArg (Value.int .i64) (by unfold fileE; split <;> omega), rfl⟩) (by repeat (first | exact Pulls.nil | exact Pulls.all | (apply Pulls.cons; (repeat (first | exact Pull.head | apply Pull.tail))) | apply Pulls.skip))
    · refine WC_skip ?_
      refine WQ_code ?_
      refine WC_seq ?_
      refine WC_region ?_
      refine WL_val rfl rfl rfl (R_assign rfl rfl) ?_
      refine WL_nil ?_
      refine WQ_code ?_
      refine WC_ret ?_
      refine WQ_ret rfl rfl (.cons (.tmp rfl) .nil) rfl (by
          exact ⟨congrArg (Value.int .i64) (by unfold fileE; split <;> omega), rfl⟩) (by repeat (first | exact Pulls.nil | exact Pulls.all | (apply Pulls.cons; (repeat (first | exact Pull.head | apply Pull.tail))) | apply Pulls.skip))
theorem dcheck_ok (p pc pt : Nat) (S : List Sl) (fd dir : Int) : Spec Try.prog 30 [ptrH p, .agg #[.int .i64 fd, .int .i64 dir]] [⟨some p, cl (dlV pc pt S) 74⟩] (fun r H' => r = .int .i64 (spotE fd dir) ∧ H' = [⟨some p, cl (dlV pc pt S) 74⟩]) := by
  refine Spec.of (E := [(0, ptrH p), (1, .agg #[.int .i64 fd, .int .i64 dir])]) Try.func30 rfl (by kernel_rfl) Try.ntmps30 rfl rfl (fun w => ?_)
  refine WC_seq ?_
  refine WC_region ?_
  refine WL_do rfl rfl rfl (D_box (cs := [_, _]) rfl rfl rfl) ?_
  rintro _ _ ⟨b1, rfl, rfl⟩
  refine WL_val rfl rfl rfl (R_assign rfl rfl) ?_
  refine WL_nil ?_
  refine WQ_code ?_
  refine WC_seq ?_
  refine WC_region ?_
  refine WL_val rfl rfl rfl (R_move rfl rfl) ?_
  refine WL_val rfl rfl rfl (R_fieldAddr rfl fa24_0 rfl) ?_
  refine WL_val rfl rfl rfl (R_load rfl sc3 rfl (by repeat (first | exact List.Mem.head _ | refine List.Mem.tail _ ?_)) rfl) ?_
  refine WL_do rfl rfl rfl (D_call (dfile_ok p pc pt S fd) rfl rfl rfl rfl (by repeat (first | exact Pulls.nil | exact Pulls.all | (apply Pulls.cons; (repeat (first | exact Pull.head | apply Pull.tail))) | apply Pulls.skip))) ?_
  rintro _ _ ⟨_, ⟨rfl, rfl⟩, rfl⟩
  refine WL_val rfl rfl rfl (R_assign rfl rfl) ?_
  refine WL_nil ?_
  refine WQ_code ?_
  refine WC_seq ?_
  refine WC_seq ?_
  refine WC_region ?_
  refine WL_val rfl rfl rfl (R_move rfl rfl) ?_
  refine WL_val rfl rfl rfl (R_eql rfl rfl rfl) ?_
  refine WL_val rfl rfl rfl (R_move rfl rfl) ?_
  refine WL_splitD (s := 12) rfl (fun c1 => ?_) (fun c1 => ?_)
  · refine WL_val rfl rfl rfl (R_fieldAddr rfl fa24_1 rfl) ?_
    refine WL_val rfl rfl rfl (R_load rfl sc22 rfl (by repeat (first | exact List.Mem.head _ | refine List.Mem.tail _ ?_)) rfl) ?_
    refine WL_val rfl rfl rfl (R_neq rfl rfl rfl) ?_
    refine WL_val rfl rfl rfl (R_pickT rfl rfl rfl) ?_
    refine WL_val rfl rfl rfl (R_move rfl rfl) ?_
    refine WL_splitD (s := 17) rfl (fun c2 => ?_) (fun c2 => ?_)
    · refine WL_val rfl rfl rfl (R_fieldAddr rfl fa24_1 rfl) ?_
      refine WL_val rfl rfl rfl (R_load rfl sc22 rfl (by repeat (first | exact List.Mem.head _ | refine List.Mem.tail _ ?_)) rfl) ?_
      refine WL_val rfl rfl rfl (R_neq rfl rfl rfl) ?_
      refine WL_val rfl rfl rfl (R_pickT rfl rfl rfl) ?_
      refine WL_nil ?_
      refine WQ_code ?_
      refine WC_dec rfl (fun c3 => ?_) (fun c3 => ?_)
      · refine WC_seq ?_
        refine WC_region ?_
        refine WL_val rfl rfl rfl (R_assign rfl rfl) ?_
        refine WL_nil ?_
        refine WQ_code ?_
        refine WC_ret ?_
        refine WQ_ret rfl rfl (.cons (.tmp rfl) .nil) rfl (by
            exact ⟨congrArg (Value.int .i64) (by unfold fileE at *; unfold spotE; split at * <;> split <;> omega), rfl⟩) (by repeat (first | exact Pulls.nil | exact Pulls.all | (apply Pulls.cons; (repeat (first | exact Pull.head | apply Pull.tail))) | apply Pulls.skip))
      · refine WC_skip ?_
        refine WQ_code ?_
        refine WC_seq ?_
        refine WC_region ?_
        refine WL_val rfl rfl rfl (R_move rfl rfl) ?_
        refine WL_val rfl rfl rfl (R_assign rfl rfl) ?_
        refine WL_nil ?_
        refine WQ_code ?_
        refine WC_ret ?_
        refine WQ_ret rfl rfl (.cons (.tmp rfl) .nil) rfl (by
            exact ⟨congrArg (Value.int .i64) (by unfold fileE at *; unfold spotE; split at * <;> split <;> omega), rfl⟩) (by repeat (first | exact Pulls.nil | exact Pulls.all | (apply Pulls.cons; (repeat (first | exact Pull.head | apply Pull.tail))) | apply Pulls.skip))
    · refine WL_skip rfl rfl rfl ?_
      refine WL_skip rfl rfl rfl ?_
      refine WL_skip rfl rfl rfl ?_
      refine WL_val rfl rfl rfl (R_pickF rfl rfl rfl) ?_
      refine WL_nil ?_
      refine WQ_code ?_
      refine WC_F rfl ?_
      refine WC_skip ?_
      refine WQ_code ?_
      refine WC_seq ?_
      refine WC_region ?_
      refine WL_val rfl rfl rfl (R_move rfl rfl) ?_
      refine WL_val rfl rfl rfl (R_assign rfl rfl) ?_
      refine WL_nil ?_
      refine WQ_code ?_
      refine WC_ret ?_
      refine WQ_ret rfl rfl (.cons (.tmp rfl) .nil) rfl (by
          exact ⟨congrArg (Value.int .i64) (by unfold fileE at *; unfold spotE; split at * <;> split <;> omega), rfl⟩) (by repeat (first | exact Pulls.nil | exact Pulls.all | (apply Pulls.cons; (repeat (first | exact Pull.head | apply Pull.tail))) | apply Pulls.skip))
  · refine WL_skip rfl rfl rfl ?_
    refine WL_skip rfl rfl rfl ?_
    refine WL_skip rfl rfl rfl ?_
    refine WL_val rfl rfl rfl (R_pickF rfl rfl rfl) ?_
    refine WL_val rfl rfl rfl (R_move rfl rfl) ?_
    refine WL_skip rfl rfl rfl ?_
    refine WL_skip rfl rfl rfl ?_
    refine WL_skip rfl rfl rfl ?_
    refine WL_val rfl rfl rfl (R_pickF rfl rfl rfl) ?_
    refine WL_nil ?_
    refine WQ_code ?_
    refine WC_F rfl ?_
    refine WC_skip ?_
    refine WQ_code ?_
    refine WC_seq ?_
    refine WC_region ?_
    refine WL_val rfl rfl rfl (R_move rfl rfl) ?_
    refine WL_val rfl rfl rfl (R_assign rfl rfl) ?_
    refine WL_nil ?_
    refine WQ_code ?_
    refine WC_ret ?_
    refine WQ_ret rfl rfl (.cons (.tmp rfl) .nil) rfl (by
        exact ⟨congrArg (Value.int .i64) (by unfold fileE at *; unfold spotE; split at * <;> split <;> omega), rfl⟩) (by repeat (first | exact Pulls.nil | exact Pulls.all | (apply Pulls.cons; (repeat (first | exact Pull.head | apply Pull.tail))) | apply Pulls.skip))

end Go.Proofs.Ytnkpefonocggfaa
