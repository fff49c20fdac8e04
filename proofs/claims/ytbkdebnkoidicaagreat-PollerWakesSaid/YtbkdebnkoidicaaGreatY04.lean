/-
  Chapter 11 (poller), part PolD: contracts of functions that the laws call, each for the heap it names.
-/
import Derived.Test.YtbkdebnkoidicaaGreatY03
import Derived.Test.YtbkdebnkoidicaaGreatRows
import Derived.Shelf.SlSortCmp.Whole1
import Derived.Shelf.SlSortCmp.NoneTotal
import Derived.ChangeKeysEq
import Derived.Laws.StructEq
section
set_option linter.unusedVariables false
set_option maxRecDepth 20000
set_option maxHeartbeats 1000000
namespace Go.Proofs.YtbkdebnkoidicaaGreat
abbrev dlV (pc pt : Nat) (S : List Sl) : List Value := ptrH pc :: ptrH pt :: S.flatMap encSl
structure DM where
  p : Nat
  pc : Nat
  L : List Tm
  S : List Sl
  m : TmM
abbrev dlH (now : Nat) (d : DM) : Heap := ⟨some d.p, cl (dlV d.pc d.m.pt d.S) 166⟩ :: ⟨some d.pc, cl [.bool true, .int .u64 (now : Int)] 241⟩ :: tmH d.m
structure DIs (f : Nat → Nat) (now : Nat) (d : DM) : Prop where
  r : DRel f now d.L d.S
  t : TIs d.L d.m
theorem dl_get {pc pt fd dir j : Nat} {S : List Sl} {s : Sl} (h : S[2 * fd + dir]? = some s) (hj : j < 4) : (dlV pc pt S)[0 + 2 + fd * 8 + dir * 4 + j]? = (encSl s)[j]? := by
  have := fm_get encSl4 h hj []
  rw [List.append_nil] at this
  rw [← this, show 0 + 2 + fd * 8 + dir * 4 + j = (2 * fd + dir) * 4 + j + 1 + 1 from by omega]
  rfl
theorem dl_at {pc pt fd dir j : Nat} {S : List Sl} {s : Sl} {vs : List Value} (h : S[2 * fd + dir]? = some s) (hv : At (encSl s) j vs) (hj : j + vs.length ≤ 4) : At (dlV pc pt S) (0 + 2 + fd * 8 + dir * 4 + j) vs := by
  intro m v hm
  have hl := (List.getElem?_eq_some_iff.1 hm).1
  rw [Nat.add_assoc, dl_get h (by omega)]
  exact hv m v hm
theorem dl_put {pc pt fd dir j : Nat} {S : List Sl} {s : Sl} (y : Sl) {vs : List Value} (h : S[2 * fd + dir]? = some s) (hj : j + vs.length ≤ 4) (hy : putAt (encSl s) j vs = encSl y) : putAt (dlV pc pt S) (0 + 2 + fd * 8 + dir * 4 + j) vs = dlV pc pt (S.set (2 * fd + dir) y) := by
  have h1 := fm_put encSl4 h hj hy []
  rw [List.append_nil, List.append_nil] at h1
  have h2 := putAt_append [ptrH pc, ptrH pt] (S.flatMap encSl) ((2 * fd + dir) * 4 + j) vs
  rw [h1] at h2
  rw [show 0 + 2 + fd * 8 + dir * 4 + j = [ptrH pc, ptrH pt].length + ((2 * fd + dir) * 4 + j) from by simp only [List.length_cons, List.length_nil]; omega]
  exact h2
theorem dl_len (pc pt : Nat) (S : List Sl) : (dlV pc pt S).length = 2 + S.length * 4 := by
  rw [List.length_cons, List.length_cons, fm_length encSl4]; omega
theorem dl_room {pc pt fd dir j n : Nat} {S : List Sl} (h : 2 * fd + dir < S.length) (hj : j + n ≤ 4) : 0 + 2 + fd * 8 + dir * 4 + j + n ≤ (dlV pc pt S).length := by
  rw [dl_len]; omega
theorem fill2 {a b : Value} {x y n : Nat} {tl : List Value} : fillL (a :: b :: tl) [(0, 1), (1, 1), (2, n)] [(0, ptrH x), (1, ptrH y)] = some (ptrH x :: ptrH y :: tl) := by
  have b1 : Nat.ble 1 (tl.length + 1 + 1) = true := Nat.ble_eq_true_of_le (by omega)
  have b2 : Nat.ble 2 (tl.length + 1 + 1) = true := Nat.ble_eq_true_of_le (by omega)
  simp [fillL, Value.cells, putAt_cons, putAt_nil, b1, b2]
theorem rep_add {α : Type} (a b : Nat) (x : α) : List.replicate (a + b) x = List.replicate a x ++ List.replicate b x := by simp
def nwS (i : Nat) : List Sl := List.replicate (2 * i) ⟨18446744073709551615, false, 0, 0⟩ ++ List.replicate (256 - 2 * i) ⟨0, false, 0, 0⟩
theorem nw_put {pc pt i : Nat} (h : i < 128) : putAt (dlV pc pt (nwS i)) (0 + 2 + i * 8) [.int .u64 18446744073709551615, .bool false, .int .i64 0, .int .i64 0, .int .u64 18446744073709551615, .bool false, .int .i64 0, .int .i64 0] = dlV pc pt (nwS (i + 1)) := by
  have e1 : nwS i = List.replicate (2 * i) ⟨18446744073709551615, false, 0, 0⟩ ++ ([⟨0, false, 0, 0⟩, ⟨0, false, 0, 0⟩] ++ List.replicate (254 - 2 * i) ⟨0, false, 0, 0⟩) := by
    rw [nwS, show 256 - 2 * i = 2 + (254 - 2 * i) from by omega, rep_add]; rfl
  have e2 : nwS (i + 1) = List.replicate (2 * i) ⟨18446744073709551615, false, 0, 0⟩ ++ ([⟨18446744073709551615, false, 0, 0⟩, ⟨18446744073709551615, false, 0, 0⟩] ++ List.replicate (254 - 2 * i) ⟨0, false, 0, 0⟩) := by
    rw [nwS, show 2 * (i + 1) = 2 * i + 2 from by omega, rep_add, List.append_assoc, show 256 - (2 * i + 2) = 254 - 2 * i from by omega]; rfl
  have e3 : ∀ B : List Sl, dlV pc pt (List.replicate (2 * i) ⟨18446744073709551615, false, 0, 0⟩ ++ B) = ([ptrH pc, ptrH pt] ++ (List.replicate (2 * i) (⟨18446744073709551615, false, 0, 0⟩ : Sl)).flatMap encSl) ++ B.flatMap encSl := fun B => by
    simp only [dlV, List.flatMap_append, List.cons_append, List.nil_append]
  have e4 : ([ptrH pc, ptrH pt] ++ (List.replicate (2 * i) (⟨18446744073709551615, false, 0, 0⟩ : Sl)).flatMap encSl).length = 0 + 2 + i * 8 := by
    rw [List.length_append, fm_length encSl4, List.length_replicate]; simp only [List.length_cons, List.length_nil]; omega
  rw [e1, e2, e3, e3]
  have h5 := putAt_append ([ptrH pc, ptrH pt] ++ (List.replicate (2 * i) (⟨18446744073709551615, false, 0, 0⟩ : Sl)).flatMap encSl) (([⟨0, false, 0, 0⟩, ⟨0, false, 0, 0⟩] ++ List.replicate (254 - 2 * i) ⟨0, false, 0, 0⟩ : List Sl).flatMap encSl) 0 [.int .u64 18446744073709551615, .bool false, .int .i64 0, .int .i64 0, .int .u64 18446744073709551615, .bool false, .int .i64 0, .int .i64 0]
  rw [e4, Nat.add_zero] at h5
  rw [h5]; simp [putAt_cons, putAt_nil]
theorem rep_two (a : List Value) : ∀ n, (List.replicate n (a ++ a)).flatten = (List.replicate (2 * n) a).flatten
  | 0 => rfl
  | n + 1 => by rw [List.replicate_succ, List.flatten_cons, rep_two a n, show 2 * (n + 1) = 2 * n + 1 + 1 from by omega, List.replicate_succ, List.replicate_succ, List.flatten_cons, List.flatten_cons, List.append_assoc]
theorem nw_zero : (List.replicate 128 [Value.int .u64 0, .bool false, .int .i64 0, .int .i64 0, .int .u64 0, .bool false, .int .i64 0, .int .i64 0]).flatten = (nwS 0).flatMap encSl := by
  have h := rep_two (encSl ⟨0, false, 0, 0⟩) 128
  rw [fm_rep (enc := encSl)] at h
  exact h
theorem nw_len (i : Nat) (h : i ≤ 128) : (nwS i).length = 256 := by rw [nwS, List.length_append, List.length_replicate, List.length_replicate]; omega
theorem nw_all : nwS 128 = List.replicate 256 ⟨18446744073709551615, false, 0, 0⟩ := by rw [nwS, show 256 - 2 * 128 = 0 from rfl, List.replicate_zero, List.append_nil]
/-! vtime -/
theorem vnew_ok (now : Nat) (h : now < 18446744073709551615) : Spec Tryz.prog 85 [.int .u64 (now : Int)] [] (fun r H' => ∃ pc, r = .tuple #[ptrH pc, .int .i64 0] ∧ H' = [⟨some pc, cl [.bool true, .int .u64 (now : Int)] 241⟩]) := by
  refine Spec.of (E := [(0, .int .u64 (now : Int))]) Tryz.func85 rfl (by kernel_rfl) Tryz.ntmps85 rfl rfl (fun w => ?_)
  refine WC_seq ?_
  refine WC_region ?_
  refine WL_val rfl rfl rfl (R_assign rfl rfl) ?_
  refine WL_val rfl rfl rfl (R_assign rfl rfl) ?_
  refine WL_nil ?_
  refine WQ_code ?_
  refine WC_seq ?_
  refine WC_seq ?_
  refine WC_region ?_
  refine WL_val rfl rfl rfl (R_move rfl rfl) ?_
  refine WL_val rfl rfl rfl (R_eql rfl rfl rfl) ?_
  refine WL_nil ?_
  refine WQ_code ?_
  refine WC_dF rfl (by omega) ?_
  refine WC_skip ?_
  refine WQ_code ?_
  refine WC_seq ?_
  refine WC_region ?_
  refine WL_val rfl rfl rfl (R_move rfl rfl) ?_
  refine WL_val rfl rfl rfl (R_build rfl zv241 pl241 rfl rfl) ?_
  refine WL_do rfl rfl rfl (D_box (cs := [_, _]) rfl rfl rfl) ?_
  rintro _ _ ⟨b1, rfl, rfl⟩
  refine WL_val rfl rfl rfl (R_assign rfl rfl) ?_
  refine WL_val rfl rfl rfl (R_assign rfl rfl) ?_
  refine WL_nil ?_
  refine WQ_code ?_
  refine WC_ret ?_
  refine WQ_ret rfl rfl (.cons (.tmp rfl) (.cons (.tmp rfl) .nil)) rfl (by
      exact ⟨b1, rfl, rfl⟩) (pqY)
theorem vnow_ok (pc now : Nat) : Spec Tryz.prog 99 [ptrH pc] [⟨some pc, cl [.bool true, .int .u64 (now : Int)] 241⟩] (fun r H' => r = .int .u64 (now : Int) ∧ H' = [⟨some pc, cl [.bool true, .int .u64 (now : Int)] 241⟩]) := by
  refine Spec.of (E := [(0, ptrH pc)]) Tryz.func99 rfl (by kernel_rfl) Tryz.ntmps99 rfl rfl (fun w => ?_)
  refine WC_seq ?_
  refine WC_region ?_
  refine WL_val rfl rfl rfl (R_assign rfl rfl) ?_
  refine WL_nil ?_
  refine WQ_code ?_
  refine WC_seq ?_
  refine WC_seq ?_
  refine WC_region ?_
  refine WL_val rfl rfl rfl (R_move rfl rfl) ?_
  refine WL_val rfl rfl rfl (R_ptrEqNil rfl Tryz.underlying155 rfl) ?_
  refine WL_nil ?_
  refine WQ_code ?_
  refine WC_F rfl ?_
  refine WC_skip ?_
  refine WQ_code ?_
  refine WC_seq ?_
  refine WC_region ?_
  refine WL_val rfl rfl rfl (R_move rfl rfl) ?_
  refine WL_val rfl rfl rfl (R_nilCheck rfl rfl) ?_
  refine WL_val rfl rfl rfl (R_fieldAddr rfl fa241_1 rfl) ?_
  refine WL_val rfl rfl rfl (R_load rfl sc28 rfl (mmY) rfl) ?_
  refine WL_val rfl rfl rfl (R_assign rfl rfl) ?_
  refine WL_nil ?_
  refine WQ_code ?_
  refine WC_ret ?_
  refine WQ_ret rfl rfl (.cons (.tmp rfl) .nil) rfl (by
      exact ⟨rfl, rfl⟩) (pqY)
theorem vadv_ok (pc now to : Nat) (h1 : now ≤ to) (h2 : to < 18446744073709551615) : Spec Tryz.prog 103 [ptrH pc, .int .u64 (to : Int)] [⟨some pc, cl [.bool true, .int .u64 (now : Int)] 241⟩] (fun r H' => r = .int .i64 0 ∧ H' = [⟨some pc, cl [.bool true, .int .u64 (to : Int)] 241⟩]) := by
  refine Spec.of (E := [(0, ptrH pc), (1, .int .u64 (to : Int))]) Tryz.func103 rfl (by kernel_rfl) Tryz.ntmps103 rfl rfl (fun w => ?_)
  refine WC_seq ?_
  refine WC_region ?_
  refine WL_val rfl rfl rfl (R_assign rfl rfl) ?_
  refine WL_nil ?_
  refine WQ_code ?_
  refine WC_seq ?_
  refine WC_block ?_
  refine WC_seq ?_
  refine WC_region ?_
  refine WL_val rfl rfl rfl (R_move rfl rfl) ?_
  refine WL_val rfl rfl rfl (R_ptrEqNil rfl Tryz.underlying155 rfl) ?_
  refine WL_val rfl rfl rfl (R_move rfl rfl) ?_
  refine WL_val rfl rfl rfl (R_move rfl rfl) ?_
  refine WL_val rfl rfl rfl (R_nilCheck rfl rfl) ?_
  refine WL_val rfl rfl rfl (R_fieldAddr rfl fa241_0 rfl) ?_
  refine WL_val rfl rfl rfl (R_load rfl sc4 rfl (mmY) rfl) ?_
  refine WL_val rfl rfl rfl (R_not rfl rfl) ?_
  refine WL_val rfl rfl rfl (R_pickF rfl rfl rfl) ?_
  refine WL_val rfl rfl rfl (R_assign rfl rfl) ?_
  refine WL_nil ?_
  refine WQ_code ?_
  refine WC_F rfl ?_
  refine WC_seq ?_
  refine WC_region ?_
  refine WL_val rfl rfl rfl (R_move rfl rfl) ?_
  refine WL_val rfl rfl rfl (R_eql rfl rfl rfl) ?_
  refine WL_val rfl rfl rfl (R_assign rfl rfl) ?_
  refine WL_nil ?_
  refine WQ_code ?_
  refine WC_dF rfl (by omega) ?_
  refine WC_seq ?_
  refine WC_region ?_
  refine WL_val rfl rfl rfl (R_move rfl rfl) ?_
  refine WL_val rfl rfl rfl (R_move rfl rfl) ?_
  refine WL_val rfl rfl rfl (R_nilCheck rfl rfl) ?_
  refine WL_val rfl rfl rfl (R_fieldAddr rfl fa241_1 rfl) ?_
  refine WL_val rfl rfl rfl (R_load rfl sc28 rfl (mmY) rfl) ?_
  refine WL_val rfl rfl rfl (R_lss rfl rfl rfl) ?_
  refine WL_val rfl rfl rfl (R_assign rfl rfl) ?_
  refine WL_nil ?_
  refine WQ_code ?_
  refine WC_dF rfl (by omega) ?_
  refine WC_skip ?_
  refine WQ_code ?_
  refine WC_seq ?_
  refine WC_region ?_
  refine WL_val rfl rfl rfl (R_move rfl rfl) ?_
  refine WL_val rfl rfl rfl (R_move rfl rfl) ?_
  refine WL_val rfl rfl rfl (R_nilCheck rfl rfl) ?_
  refine WL_val rfl rfl rfl (R_fieldAddr rfl fa241_1 rfl) ?_
  refine WL_do0 rfl rfl (D_store (vs := [_]) rfl Tryz.sizeOf28 rfl rfl rfl rfl rfl (plY) (by exact Nat.le_of_ble_eq_true rfl)) ?_
  rintro _ _ rfl
  refine WL_nil ?_
  refine WQ_code ?_
  refine WC_seq ?_
  refine WC_region ?_
  refine WL_val rfl rfl rfl (R_assign rfl rfl) ?_
  refine WL_nil ?_
  refine WQ_code ?_
  refine WC_ret ?_
  refine WQ_ret rfl rfl (.cons (.tmp rfl) .nil) rfl (by
      exact ⟨rfl, rfl⟩) (pqY)
theorem vadv_never (pc now : Nat) : Spec Tryz.prog 103 [ptrH pc, .int .u64 18446744073709551615] [⟨some pc, cl [.bool true, .int .u64 (now : Int)] 241⟩] (fun r H' => r = .int .i64 2 ∧ H' = [⟨some pc, cl [.bool true, .int .u64 (now : Int)] 241⟩]) := by
  refine Spec.of (E := [(0, ptrH pc), (1, .int .u64 18446744073709551615)]) Tryz.func103 rfl (by kernel_rfl) Tryz.ntmps103 rfl rfl (fun w => ?_)
  refine WC_seq ?_
  refine WC_region ?_
  refine WL_val rfl rfl rfl (R_assign rfl rfl) ?_
  refine WL_nil ?_
  refine WQ_code ?_
  refine WC_seq ?_
  refine WC_block ?_
  refine WC_seq ?_
  refine WC_region ?_
  refine WL_val rfl rfl rfl (R_move rfl rfl) ?_
  refine WL_val rfl rfl rfl (R_ptrEqNil rfl Tryz.underlying155 rfl) ?_
  refine WL_val rfl rfl rfl (R_move rfl rfl) ?_
  refine WL_val rfl rfl rfl (R_move rfl rfl) ?_
  refine WL_val rfl rfl rfl (R_nilCheck rfl rfl) ?_
  refine WL_val rfl rfl rfl (R_fieldAddr rfl fa241_0 rfl) ?_
  refine WL_val rfl rfl rfl (R_load rfl sc4 rfl (mmY) rfl) ?_
  refine WL_val rfl rfl rfl (R_not rfl rfl) ?_
  refine WL_val rfl rfl rfl (R_pickF rfl rfl rfl) ?_
  refine WL_val rfl rfl rfl (R_assign rfl rfl) ?_
  refine WL_nil ?_
  refine WQ_code ?_
  refine WC_F rfl ?_
  refine WC_seq ?_
  refine WC_region ?_
  refine WL_val rfl rfl rfl (R_move rfl rfl) ?_
  refine WL_val rfl rfl rfl (R_eql rfl rfl rfl) ?_
  refine WL_val rfl rfl rfl (R_assign rfl rfl) ?_
  refine WL_nil ?_
  refine WQ_code ?_
  refine WC_dT rfl (by rfl) ?_
  refine WC_seq ?_
  refine WC_region ?_
  refine WL_val rfl rfl rfl (R_assign rfl rfl) ?_
  refine WL_nil ?_
  refine WQ_code ?_
  refine WC_ret ?_
  refine WQ_ret rfl rfl (.cons (.tmp rfl) .nil) rfl (by
      exact ⟨rfl, rfl⟩) (pqY)
theorem vadv_past (pc now to : Nat) (h1 : to < now) (h2 : to < 18446744073709551615) : Spec Tryz.prog 103 [ptrH pc, .int .u64 (to : Int)] [⟨some pc, cl [.bool true, .int .u64 (now : Int)] 241⟩] (fun r H' => r = .int .i64 3 ∧ H' = [⟨some pc, cl [.bool true, .int .u64 (now : Int)] 241⟩]) := by
  refine Spec.of (E := [(0, ptrH pc), (1, .int .u64 (to : Int))]) Tryz.func103 rfl (by kernel_rfl) Tryz.ntmps103 rfl rfl (fun w => ?_)
  refine WC_seq ?_
  refine WC_region ?_
  refine WL_val rfl rfl rfl (R_assign rfl rfl) ?_
  refine WL_nil ?_
  refine WQ_code ?_
  refine WC_seq ?_
  refine WC_block ?_
  refine WC_seq ?_
  refine WC_region ?_
  refine WL_val rfl rfl rfl (R_move rfl rfl) ?_
  refine WL_val rfl rfl rfl (R_ptrEqNil rfl Tryz.underlying155 rfl) ?_
  refine WL_val rfl rfl rfl (R_move rfl rfl) ?_
  refine WL_val rfl rfl rfl (R_move rfl rfl) ?_
  refine WL_val rfl rfl rfl (R_nilCheck rfl rfl) ?_
  refine WL_val rfl rfl rfl (R_fieldAddr rfl fa241_0 rfl) ?_
  refine WL_val rfl rfl rfl (R_load rfl sc4 rfl (mmY) rfl) ?_
  refine WL_val rfl rfl rfl (R_not rfl rfl) ?_
  refine WL_val rfl rfl rfl (R_pickF rfl rfl rfl) ?_
  refine WL_val rfl rfl rfl (R_assign rfl rfl) ?_
  refine WL_nil ?_
  refine WQ_code ?_
  refine WC_F rfl ?_
  refine WC_seq ?_
  refine WC_region ?_
  refine WL_val rfl rfl rfl (R_move rfl rfl) ?_
  refine WL_val rfl rfl rfl (R_eql rfl rfl rfl) ?_
  refine WL_val rfl rfl rfl (R_assign rfl rfl) ?_
  refine WL_nil ?_
  refine WQ_code ?_
  refine WC_dF rfl (by omega) ?_
  refine WC_seq ?_
  refine WC_region ?_
  refine WL_val rfl rfl rfl (R_move rfl rfl) ?_
  refine WL_val rfl rfl rfl (R_move rfl rfl) ?_
  refine WL_val rfl rfl rfl (R_nilCheck rfl rfl) ?_
  refine WL_val rfl rfl rfl (R_fieldAddr rfl fa241_1 rfl) ?_
  refine WL_val rfl rfl rfl (R_load rfl sc28 rfl (mmY) rfl) ?_
  refine WL_val rfl rfl rfl (R_lss rfl rfl rfl) ?_
  refine WL_val rfl rfl rfl (R_assign rfl rfl) ?_
  refine WL_nil ?_
  refine WQ_code ?_
  refine WC_dT rfl (by omega) ?_
  refine WC_seq ?_
  refine WC_region ?_
  refine WL_val rfl rfl rfl (R_assign rfl rfl) ?_
  refine WL_nil ?_
  refine WQ_code ?_
  refine WC_ret ?_
  refine WQ_ret rfl rfl (.cons (.tmp rfl) .nil) rfl (by
      exact ⟨rfl, rfl⟩) (pqY)
theorem passn_ok (a b : Nat) (hb : b < 18446744073709551615) : Spec Tryz.prog 101 [.int .u64 (a : Int), .int .u64 (b : Int)] [] (fun r H' => r = .bool (decide (a ≤ b)) ∧ H' = []) :=
  (passed_ok a b).mono fun r H' ⟨e1, e2⟩ => ⟨by rw [e1]; congr 1; rw [decide_eq_decide]; omega, e2⟩
theorem mstop_at (L : List Tm) (m : TmM) (ht : TIs L m) (t : Tm) (hm : t ∈ L) (hg : t.gone = false) (k gen : Nat) (h1 : t.n = k) (h2 : t.gen = gen) : Spec Tryz.prog 98 [ptrH m.pt, .agg #[.int .i64 (k : Int), .int .i64 (gen : Int)]] (tmH m) (fun r H' => ∃ m' : TmM, r = .int .i64 0 ∧ H' = tmH m' ∧ m'.pt = m.pt ∧ m'.g.n = m.g.n ∧ TIs (rmL L t.n) m') := by
  subst h1 h2
  exact mstop_ok L m ht t hm hg
/-! the parts -/
theorem dzero_ok (p pc pt : Nat) (S : List Sl) : Spec Tryz.prog 102 [ptrH p] [⟨some p, cl (dlV pc pt S) 166⟩] (fun r H' => r = .bool false ∧ H' = [⟨some p, cl (dlV pc pt S) 166⟩]) := by
  refine Spec.of (E := [(0, ptrH p)]) Tryz.func102 rfl (by kernel_rfl) Tryz.ntmps102 rfl rfl (fun w => ?_)
  refine WC_seq ?_
  refine WC_region ?_
  refine WL_val rfl rfl rfl (R_assign rfl rfl) ?_
  refine WL_nil ?_
  refine WQ_code ?_
  refine WC_seq ?_
  refine WC_region ?_
  refine WL_val rfl rfl rfl (R_move rfl rfl) ?_
  refine WL_val rfl rfl rfl (R_ptrEqNil rfl Tryz.underlying88 rfl) ?_
  refine WL_val rfl rfl rfl (R_move rfl rfl) ?_
  refine WL_val rfl rfl rfl (R_move rfl rfl) ?_
  refine WL_val rfl rfl rfl (R_nilCheck rfl rfl) ?_
  refine WL_val rfl rfl rfl (R_fieldAddr rfl fa166_0 rfl) ?_
  refine WL_val rfl rfl rfl (R_load rfl sc155 rfl (mmY) rfl) ?_
  refine WL_val rfl rfl rfl (R_ptrEqNil rfl Tryz.underlying155 rfl) ?_
  refine WL_val rfl rfl rfl (R_pickF rfl rfl rfl) ?_
  refine WL_val rfl rfl rfl (R_assign rfl rfl) ?_
  refine WL_nil ?_
  refine WQ_code ?_
  refine WC_ret ?_
  refine WQ_ret rfl rfl (.cons (.tmp rfl) .nil) rfl (by
      exact ⟨rfl, rfl⟩) (pqY)
def fileE (fd : Int) : Int := if 0 ≤ fd ∧ fd < 128 then 0 else 2
def spotE (fd dir : Int) : Int := if 0 ≤ fd ∧ fd < 128 ∧ (dir = 0 ∨ dir = 1) then 0 else 2
theorem dfile_ok (p pc pt : Nat) (S : List Sl) (fd : Int) : Spec Tryz.prog 89 [ptrH p, .int .i64 fd] [⟨some p, cl (dlV pc pt S) 166⟩] (fun r H' => r = .int .i64 (fileE fd) ∧ H' = [⟨some p, cl (dlV pc pt S) 166⟩]) := by
  refine Spec.of (E := [(0, ptrH p), (1, .int .i64 fd)]) Tryz.func89 rfl (by kernel_rfl) Tryz.ntmps89 rfl rfl (fun w => ?_)
  refine WC_seq ?_
  refine WC_region ?_
  refine WL_val rfl rfl rfl (R_assign rfl rfl) ?_
  refine WL_nil ?_
  refine WQ_code ?_
  refine WC_seq ?_
  refine WC_block ?_
  refine WC_seq ?_
  refine WC_region ?_
  refine WL_val rfl rfl rfl (R_move rfl rfl) ?_
  refine WL_do rfl rfl rfl (D_call (dzero_ok p pc pt S) rfl rfl rfl rfl (pqY)) ?_
  rintro _ _ ⟨_, ⟨rfl, rfl⟩, rfl⟩
  refine WL_val rfl rfl rfl (R_assign rfl rfl) ?_
  refine WL_nil ?_
  refine WQ_code ?_
  refine WC_F rfl ?_
  refine WC_seq ?_
  refine WC_region ?_
  refine WL_val rfl rfl rfl (R_move rfl rfl) ?_
  refine WL_val rfl rfl rfl (R_lss rfl rfl rfl) ?_
  refine WL_val rfl rfl rfl (R_move rfl rfl) ?_
  refine WL_splitD (s := 11) rfl (fun c1 => ?_) (fun c1 => ?_)
  · refine WL_skip rfl rfl rfl ?_
    refine WL_skip rfl rfl rfl ?_
    refine WL_val rfl rfl rfl (R_pickT rfl rfl rfl) ?_
    refine WL_val rfl rfl rfl (R_assign rfl rfl) ?_
    refine WL_nil ?_
    refine WQ_code ?_
    refine WC_T rfl ?_
    refine WC_seq ?_
    refine WC_region ?_
    refine WL_val rfl rfl rfl (R_assign rfl rfl) ?_
    refine WL_nil ?_
    refine WQ_code ?_
    refine WC_ret ?_
    refine WQ_ret rfl rfl (.cons (.tmp rfl) .nil) rfl (by
        exact ⟨congrArg (Value.int .i64) (by unfold fileE; split <;> omega), rfl⟩) (pqY)
  · refine WL_val rfl rfl rfl (R_move rfl rfl) ?_
    refine WL_val rfl rfl rfl (R_geq rfl rfl rfl) ?_
    refine WL_val rfl rfl rfl (R_pickF rfl rfl rfl) ?_
    refine WL_val rfl rfl rfl (R_assign rfl rfl) ?_
    refine WL_nil ?_
    refine WQ_code ?_
    refine WC_dec rfl (fun c2 => ?_) (fun c2 => ?_)
    · refine WC_seq ?_
      refine WC_region ?_
      refine WL_val rfl rfl rfl (R_assign rfl rfl) ?_
      refine WL_nil ?_
      refine WQ_code ?_
      refine WC_ret ?_
      refine WQ_ret rfl rfl (.cons (.tmp rfl) .nil) rfl (by
          exact ⟨congrArg (Value.int .i64) (by unfold fileE; split <;> omega), rfl⟩) (pqY)
    · refine WC_skip ?_
      refine WQ_code ?_
      refine WC_seq ?_
      refine WC_region ?_
      refine WL_val rfl rfl rfl (R_assign rfl rfl) ?_
      refine WL_nil ?_
      refine WQ_code ?_
      refine WC_ret ?_
      refine WQ_ret rfl rfl (.cons (.tmp rfl) .nil) rfl (by
          exact ⟨congrArg (Value.int .i64) (by unfold fileE; split <;> omega), rfl⟩) (pqY)
theorem dcheck_ok (p pc pt : Nat) (S : List Sl) (fd dir : Int) : Spec Tryz.prog 97 [ptrH p, .agg #[.int .i64 fd, .int .i64 dir]] [⟨some p, cl (dlV pc pt S) 166⟩] (fun r H' => r = .int .i64 (spotE fd dir) ∧ H' = [⟨some p, cl (dlV pc pt S) 166⟩]) := by
  refine Spec.of (E := [(0, ptrH p), (1, .agg #[.int .i64 fd, .int .i64 dir])]) Tryz.func97 rfl (by kernel_rfl) Tryz.ntmps97 rfl rfl (fun w => ?_)
  refine WC_seq ?_
  refine WC_region ?_
  refine WL_do rfl rfl rfl (D_box (cs := [_, _]) rfl rfl rfl) ?_
  rintro _ _ ⟨b1, rfl, rfl⟩
  refine WL_val rfl rfl rfl (R_assign rfl rfl) ?_
  refine WL_nil ?_
  refine WQ_code ?_
  refine WC_seq ?_
  refine WC_region ?_
  refine WL_val rfl rfl rfl (R_move rfl rfl) ?_
  refine WL_val rfl rfl rfl (R_fieldAddr rfl fa108_0 rfl) ?_
  refine WL_val rfl rfl rfl (R_load rfl sc3 rfl (mmY) rfl) ?_
  refine WL_do rfl rfl rfl (D_call (dfile_ok p pc pt S fd) rfl rfl rfl rfl (pqY)) ?_
  rintro _ _ ⟨_, ⟨rfl, rfl⟩, rfl⟩
  refine WL_val rfl rfl rfl (R_assign rfl rfl) ?_
  refine WL_nil ?_
  refine WQ_code ?_
  refine WC_seq ?_
  refine WC_seq ?_
  refine WC_region ?_
  refine WL_val rfl rfl rfl (R_move rfl rfl) ?_
  refine WL_val rfl rfl rfl (R_eql rfl rfl rfl) ?_
  refine WL_val rfl rfl rfl (R_move rfl rfl) ?_
  refine WL_splitD (s := 12) rfl (fun c1 => ?_) (fun c1 => ?_)
  · refine WL_val rfl rfl rfl (R_fieldAddr rfl fa108_1 rfl) ?_
    refine WL_val rfl rfl rfl (R_load rfl sc44 rfl (mmY) rfl) ?_
    refine WL_val rfl rfl rfl (R_neq rfl rfl rfl) ?_
    refine WL_val rfl rfl rfl (R_pickT rfl rfl rfl) ?_
    refine WL_val rfl rfl rfl (R_move rfl rfl) ?_
    refine WL_splitD (s := 17) rfl (fun c2 => ?_) (fun c2 => ?_)
    · refine WL_val rfl rfl rfl (R_fieldAddr rfl fa108_1 rfl) ?_
      refine WL_val rfl rfl rfl (R_load rfl sc44 rfl (mmY) rfl) ?_
      refine WL_val rfl rfl rfl (R_neq rfl rfl rfl) ?_
      refine WL_val rfl rfl rfl (R_pickT rfl rfl rfl) ?_
      refine WL_nil ?_
      refine WQ_code ?_
      refine WC_dec rfl (fun c3 => ?_) (fun c3 => ?_)
      · refine WC_seq ?_
        refine WC_region ?_
        refine WL_val rfl rfl rfl (R_assign rfl rfl) ?_
        refine WL_nil ?_
        refine WQ_code ?_
        refine WC_ret ?_
        refine WQ_ret rfl rfl (.cons (.tmp rfl) .nil) rfl (by
            exact ⟨congrArg (Value.int .i64) (by unfold fileE at *; unfold spotE; split at * <;> split <;> omega), rfl⟩) (pqY)
      · refine WC_skip ?_
        refine WQ_code ?_
        refine WC_seq ?_
        refine WC_region ?_
        refine WL_val rfl rfl rfl (R_move rfl rfl) ?_
        refine WL_val rfl rfl rfl (R_assign rfl rfl) ?_
        refine WL_nil ?_
        refine WQ_code ?_
        refine WC_ret ?_
        refine WQ_ret rfl rfl (.cons (.tmp rfl) .nil) rfl (by
            exact ⟨congrArg (Value.int .i64) (by unfold fileE at *; unfold spotE; split at * <;> split <;> omega), rfl⟩) (pqY)
    · refine WL_skip rfl rfl rfl ?_
      refine WL_skip rfl rfl rfl ?_
      refine WL_skip rfl rfl rfl ?_
      refine WL_val rfl rfl rfl (R_pickF rfl rfl rfl) ?_
      refine WL_nil ?_
      refine WQ_code ?_
      refine WC_F rfl ?_
      refine WC_skip ?_
      refine WQ_code ?_
      refine WC_seq ?_
      refine WC_region ?_
      refine WL_val rfl rfl rfl (R_move rfl rfl) ?_
      refine WL_val rfl rfl rfl (R_assign rfl rfl) ?_
      refine WL_nil ?_
      refine WQ_code ?_
      refine WC_ret ?_
      refine WQ_ret rfl rfl (.cons (.tmp rfl) .nil) rfl (by
          exact ⟨congrArg (Value.int .i64) (by unfold fileE at *; unfold spotE; split at * <;> split <;> omega), rfl⟩) (pqY)
  · refine WL_skip rfl rfl rfl ?_
    refine WL_skip rfl rfl rfl ?_
    refine WL_skip rfl rfl rfl ?_
    refine WL_val rfl rfl rfl (R_pickF rfl rfl rfl) ?_
    refine WL_val rfl rfl rfl (R_move rfl rfl) ?_
    refine WL_skip rfl rfl rfl ?_
    refine WL_skip rfl rfl rfl ?_
    refine WL_skip rfl rfl rfl ?_
    refine WL_val rfl rfl rfl (R_pickF rfl rfl rfl) ?_
    refine WL_nil ?_
    refine WQ_code ?_
    refine WC_F rfl ?_
    refine WC_skip ?_
    refine WQ_code ?_
    refine WC_seq ?_
    refine WC_region ?_
    refine WL_val rfl rfl rfl (R_move rfl rfl) ?_
    refine WL_val rfl rfl rfl (R_assign rfl rfl) ?_
    refine WL_nil ?_
    refine WQ_code ?_
    refine WC_ret ?_
    refine WQ_ret rfl rfl (.cons (.tmp rfl) .nil) rfl (by
        exact ⟨congrArg (Value.int .i64) (by unfold fileE at *; unfold spotE; split at * <;> split <;> omega), rfl⟩) (pqY)
end Go.Proofs.YtbkdebnkoidicaaGreat
end
section
set_option linter.unusedVariables false
set_option maxRecDepth 20000
set_option maxHeartbeats 2000000
namespace Go.Proofs.YtbkdebnkoidicaaGreat
theorem dnew_ok (now : Nat) (h : now < 18446744073709551615) : Spec Tryz.prog 39 [.int .u64 (now : Int)] [] (fun r H' => ∃ d : DM, r = .tuple #[ptrH d.p, .int .i64 0] ∧ H' = dlH now d ∧ d.m.g.n = 0 ∧ DIs (fun _ => 18446744073709551615) now d) := by
  refine Spec.of (E := [(0, .int .u64 (now : Int))]) Tryz.func39 rfl (by kernel_rfl) Tryz.ntmps39 rfl rfl (fun w => ?_)
  refine WC_seq ?_
  refine WC_region ?_
  refine WL_val rfl rfl rfl (R_assign rfl rfl) ?_
  refine WL_val rfl rfl rfl (R_assign rfl rfl) ?_
  refine WL_nil ?_
  refine WQ_code ?_
  refine WC_seq ?_
  refine WC_region ?_
  refine WL_val rfl rfl rfl (R_move rfl rfl) ?_
  refine WL_do rfl rfl rfl (D_call (vnew_ok now h) rfl rfl rfl rfl (pqY)) ?_
  rintro _ _ ⟨_, ⟨vc, rfl, rfl⟩, rfl⟩
  refine WL_val rfl rfl rfl (R_move rfl rfl) ?_
  refine WL_val rfl rfl rfl (R_extract rfl rfl rfl) ?_
  refine WL_val rfl rfl rfl (R_extract rfl rfl rfl) ?_
  refine WL_val rfl rfl rfl (R_assign rfl rfl) ?_
  refine WL_val rfl rfl rfl (R_assign rfl rfl) ?_
  refine WL_nil ?_
  refine WQ_code ?_
  refine WC_seq ?_
  refine WC_seq ?_
  refine WC_region ?_
  refine WL_val rfl rfl rfl (R_move rfl rfl) ?_
  refine WL_val rfl rfl rfl (R_neq rfl rfl rfl) ?_
  refine WL_nil ?_
  refine WQ_code ?_
  refine WC_dF rfl (by simp) ?_
  refine WC_skip ?_
  refine WQ_code ?_
  refine WC_seq ?_
  refine WC_region ?_
  refine WL_val rfl rfl rfl (R_move rfl rfl) ?_
  refine WL_do rfl rfl rfl (D_call (mnew_ok) rfl rfl rfl rfl (pqY)) ?_
  rintro _ _ ⟨_, ⟨m0, rfl, rfl, g0, n0⟩, rfl⟩
  refine WL_val rfl rfl rfl (R_build (cs := ptrH vc :: ptrH m0.pt :: (nwS 0).flatMap encSl) rfl (nw_zero ▸ zv166) pl166 rfl fill2) ?_
  refine WL_do rfl rfl rfl (D_box (cs := dlV vc m0.pt (nwS 0)) rfl rfl rfl) ?_
  rintro _ _ ⟨b1, rfl, rfl⟩
  refine WL_val rfl rfl rfl (R_assign rfl rfl) ?_
  refine WL_nil ?_
  refine WQ_code ?_
  refine WC_seq ?_
  refine WC_seq ?_
  refine WC_region ?_
  refine WL_val rfl rfl rfl (R_move rfl rfl) ?_
  refine WL_nil ?_
  refine WQ_code ?_
  refine WC_block ?_
  refine WC_loopF (G := Nat) [7, 20, 21, 22, 23, 24, 25, 26, 27, 28, 29, 30, 31] (fun j => j ≤ 128) (fun j => [(20, .int .i64 (j : Int))]) (fun j => [⟨some b1, cl (dlV vc m0.pt (nwS j)) 166⟩]) (fun j => 128 - j) (0) (Nat.zero_le _) leZ (pqY) ?_
  rintro j hj
  refine WC_seq ?_
  refine WC_region ?_
  refine WL_val rfl rfl rfl (R_lss rfl rfl rfl) ?_
  refine WL_nil ?_
  refine WQ_code ?_
  refine WC_seq ?_
  refine WC_dec rfl (fun c1 => ?_) (fun c1 => ?_)
  · refine WC_skip ?_
    refine WQ_code ?_
    refine WC_seq ?_
    refine WC_block ?_
    refine WC_seq ?_
    refine WC_region ?_
    refine WL_val rfl rfl rfl (R_move rfl rfl) ?_
    refine WL_val rfl rfl rfl (R_assign rfl rfl) ?_
    refine WL_nil ?_
    refine WQ_code ?_
    refine WC_region ?_
    refine WL_val rfl rfl rfl (R_move rfl rfl) ?_
    refine WL_val rfl rfl rfl (R_move rfl rfl) ?_
    refine WL_val rfl rfl rfl (R_build rfl zv162 pl162 rfl rfl) ?_
    refine WL_val rfl rfl rfl (R_build rfl zv162 pl162 rfl rfl) ?_
    refine WL_val rfl rfl rfl (R_buildArr rfl Tryz.underlying163 Tryz.sizeOf162 zv163 rfl rfl) ?_
    refine WL_val rfl rfl rfl (R_nilCheck rfl rfl) ?_
    refine WL_val rfl rfl rfl (R_fieldAddr rfl fa166_2 rfl) ?_
    refine WL_val rfl rfl rfl (R_indexAddrAN rfl Tryz.underlying164 Tryz.sizeOf163 rfl rfl (by omega)) ?_
    refine WL_do0 rfl rfl (D_store (vs := [_, _, _, _, _, _, _, _]) rfl Tryz.sizeOf163 rfl rfl rfl rfl rfl (plY) (by rw [dl_len, nw_len j hj]; omega)) ?_
    rintro _ _ rfl
    rw [nw_put (show j < 128 by omega)]
    refine WL_nil ?_
    refine WQ_code ?_
    refine WC_region ?_
    refine WL_val rfl rfl rfl (R_add rfl rfl rfl (by omega)) ?_
    refine WL_val rfl rfl rfl (R_move rfl rfl) ?_
    refine WL_nil ?_
    refine WQ_nextF (j + 1) (by omega) (by omega) leZ (psZ) rfl (pqY)
  · obtain rfl : j = 128 := by omega
    refine WC_exit ?_
    refine WQ_code ?_
    refine WC_seq ?_
    refine WC_region ?_
    refine WL_val rfl rfl rfl (R_move rfl rfl) ?_
    refine WL_val rfl rfl rfl (R_assign rfl rfl) ?_
    refine WL_val rfl rfl rfl (R_assign rfl rfl) ?_
    refine WL_nil ?_
    refine WQ_code ?_
    refine WC_ret ?_
    refine WQ_ret rfl rfl (.cons (.tmp rfl) (.cons (.tmp rfl) .nil)) rfl (by
        exact ⟨⟨b1, vc, [], nwS 128, m0⟩, rfl, rfl, n0, ⟨by rw [nw_all]; exact DRel.new h, g0⟩⟩) (pqY)
section
variable {f : Nat → Nat} {now : Nat}
theorem dset_ok (d : DM) (hd : DIs f now d) (fd dir : Nat) (h1 : fd < 128) (h2 : dir < 2) (k : Nat) (hk : k ≤ 18446744073709551615) (hb : d.m.g.n + 1 < 9000000000000000000) : Spec Tryz.prog 49 [ptrH d.p, .agg #[.int .i64 (fd : Int), .int .i64 (dir : Int)], .int .u64 (k : Int)] (dlH now d)
    (fun r H' => ∃ d' : DM, r = .tuple #[.bool (decide (k ≤ now)), .int .i64 0] ∧ H' = dlH now d' ∧ d'.p = d.p ∧ d'.m.g.n ≤ d.m.g.n + 1 ∧ DIs (updF f (2 * fd + dir) k) now d') := by
  obtain ⟨s, hs⟩ : ∃ s, d.S[2 * fd + dir]? = some s := ⟨_, List.getElem?_eq_getElem (show 2 * fd + dir < d.S.length by rw [hd.r.len]; omega)⟩
  have hlen := hd.r.len
  have hlt : 2 * fd + dir < d.S.length := by omega
  have hsp : spotE (fd : Int) (dir : Int) = 0 := by unfold spotE; split <;> omega
  have hnv := hd.r.nv
  refine Spec.of (E := [(0, ptrH d.p), (1, .agg #[.int .i64 (fd : Int), .int .i64 (dir : Int)]), (2, .int .u64 (k : Int))]) Tryz.func49 rfl (by kernel_rfl) Tryz.ntmps49 rfl rfl (fun w => ?_)
  refine WC_seq ?_
  refine WC_region ?_
  refine WL_do rfl rfl rfl (D_box (cs := [_, _]) rfl rfl rfl) ?_
  rintro _ _ ⟨b1, rfl, rfl⟩
  refine WL_val rfl rfl rfl (R_assign rfl rfl) ?_
  refine WL_val rfl rfl rfl (R_assign rfl rfl) ?_
  refine WL_nil ?_
  refine WQ_code ?_
  refine WC_seq ?_
  refine WC_seq ?_
  refine WC_region ?_
  refine WL_val rfl rfl rfl (R_move rfl rfl) ?_
  refine WL_val rfl rfl rfl (R_loadA (vs := [_, _]) rfl ag108 rfl (mmY) rfl (atZ)) ?_
  refine WL_do rfl rfl rfl (D_call (dcheck_ok d.p d.pc d.m.pt d.S (fd : Int) (dir : Int)) rfl rfl rfl rfl (pqY)) ?_
  rintro _ _ ⟨_, ⟨rfl, rfl⟩, rfl⟩
  refine WL_val rfl rfl rfl (R_assign rfl rfl) ?_
  refine WL_nil ?_
  refine WQ_code ?_
  refine WC_seq ?_
  refine WC_region ?_
  refine WL_val rfl rfl rfl (R_move rfl rfl) ?_
  refine WL_val rfl rfl rfl (R_neq rfl rfl rfl) ?_
  refine WL_nil ?_
  refine WQ_code ?_
  refine WC_dF rfl (by omega) ?_
  refine WC_skip ?_
  refine WQ_code ?_
  refine WC_seq ?_
  refine WC_draw _ [(0, true), (1, true), (2, true), (3, true), (4, true), (5, true), (6, true), (7, true), (8, true), (9, true)] followsMixed rfl rfl (by kernel_rfl) .all ?_
  refine WM_val rfl rfl rfl rfl (R_move rfl rfl) ?_
  refine WM_val rfl rfl rfl rfl (R_fieldAddr rfl fa108_0 rfl) ?_
  refine WM_val rfl rfl rfl rfl (R_load rfl sc3 rfl (mmY) rfl) ?_
  refine WM_val rfl rfl rfl rfl (R_fieldAddr rfl fa108_1 rfl) ?_
  refine WM_val rfl rfl rfl rfl (R_load rfl sc44 rfl (mmY) rfl) ?_
  refine WM_val rfl rfl rfl rfl (R_nilCheck rfl rfl) ?_
  refine WM_val rfl rfl rfl rfl (R_fieldAddr rfl fa166_2 rfl) ?_
  refine WM_val rfl rfl rfl rfl (R_indexAddrAN rfl Tryz.underlying164 Tryz.sizeOf163 rfl rfl (by omega)) ?_
  refine WM_val rfl rfl rfl rfl (R_indexAddrAN rfl Tryz.underlying163 Tryz.sizeOf162 rfl rfl (by omega)) ?_
  refine WM_val rfl rfl rfl rfl (R_assign rfl rfl) ?_
  refine WM_nil ?_
  refine WQ_code ?_
  refine WC_seq ?_
  refine WC_seq ?_
  refine WC_region ?_
  refine WL_val rfl rfl rfl (R_move rfl rfl) ?_
  refine WL_val rfl rfl rfl (R_nilCheck rfl rfl) ?_
  refine WL_val rfl rfl rfl (R_fieldAddr rfl fa162_1 rfl) ?_
  refine WL_val rfl rfl rfl (R_load (v := .bool s.set) rfl sc4 rfl (mmY) (dl_get hs (j := 1) (by omega))) ?_
  refine WL_nil ?_
  refine WQ_code ?_
  refine WC_if rfl (fun c1 => ?_) (fun c1 => ?_)
  · have hset : s.set = true := c1
    obtain ⟨t, ht, hg, hn, hgen, ho, htm⟩ := hd.r.fwd _ s hs hset
    have hlr := live_rm hd.t.r (List.getElem?_of_mem ht).choose_spec hg
    refine WC_drawR (tmH d.m) [(0, true), (1, true), (2, true), (3, true), (4, true), (5, true), (6, true), (7, true), (8, false)] followsMixed rfl rfl (by kernel_rfl) (pqY) ?_
    refine WM_val rfl rfl rfl rfl (R_move rfl rfl) ?_
    refine WM_val rfl rfl rfl rfl (R_nilCheck rfl rfl) ?_
    refine WM_val rfl rfl rfl rfl (R_fieldAddr rfl fa166_1 rfl) ?_
    refine WM_val rfl rfl rfl rfl (R_load rfl sc158 rfl (mmY) rfl) ?_
    refine WM_val rfl rfl rfl rfl (R_move rfl rfl) ?_
    refine WM_val rfl rfl rfl rfl (R_nilCheck rfl rfl) ?_
    refine WM_val rfl rfl rfl rfl (R_fieldAddr rfl fa162_2 rfl) ?_
    refine WM_val rfl rfl rfl rfl (R_loadA (vs := [.int .i64 (s.n : Int), .int .i64 (s.gen : Int)]) rfl ag160 rfl (mmY) rfl (dl_at hs (j := 2) (vs := [.int .i64 (s.n : Int), .int .i64 (s.gen : Int)]) (atZ) (by simp))) ?_
    refine WM_do rfl rfl rfl rfl (D_call (mstop_at d.L d.m hd.t t ht hg s.n s.gen hn hgen) rfl rfl rfl rfl (pqY)) ?_
    rintro _ _ ⟨_, ⟨m1, rfl, rfl, hmp, hmn, hm1⟩, rfl⟩
    refine ⟨⟨_, pqY⟩, ?_⟩
    rw [← hmp]
    refine WM_nil ?_
    refine WQ_code ?_
    refine WC_seq ?_
    refine WC_region ?_
    refine WL_val rfl rfl rfl (R_move rfl rfl) ?_
    refine WL_val rfl rfl rfl (R_move rfl rfl) ?_
    refine WL_val rfl rfl rfl (R_build rfl zv162 pl162 rfl rfl) ?_
    refine WL_val rfl rfl rfl (R_nilCheck rfl rfl) ?_
    refine WL_do0 rfl rfl (D_store (vs := [_, _, _, _]) rfl Tryz.sizeOf162 rfl rfl rfl rfl rfl (plY) (by exact dl_room hlt (j := 0) (by omega))) ?_
    rintro _ _ rfl
    have hput := dl_put (pc := d.pc) (pt := m1.pt) ⟨(k : Nat), false, 0, 0⟩ (hs) (j := 0) (vs := [.int .u64 (k : Int), .bool false, .int .i64 0, .int .i64 0]) (by simp) (by simp [putAt_cons, putAt_nil])
    rw [Nat.add_zero] at hput
    rw [hput]
    have hs1 := set_eq (x := ⟨k, false, 0, 0⟩) hs
    refine WL_nil ?_
    refine WQ_code ?_
    refine WC_seq ?_
    refine WC_seq ?_
    refine WC_region ?_
    refine WL_val rfl rfl rfl (R_move rfl rfl) ?_
    refine WL_val rfl rfl rfl (R_move rfl rfl) ?_
    refine WL_val rfl rfl rfl (R_nilCheck rfl rfl) ?_
    refine WL_val rfl rfl rfl (R_fieldAddr rfl fa166_0 rfl) ?_
    refine WL_val rfl rfl rfl (R_load rfl sc155 rfl (mmY) rfl) ?_
    refine WL_do rfl rfl rfl (D_call (vnow_ok d.pc now) rfl rfl rfl rfl (pqY)) ?_
    rintro _ _ ⟨_, ⟨rfl, rfl⟩, rfl⟩
    refine WL_val rfl rfl rfl (R_gtr rfl rfl rfl) ?_
    refine WL_val rfl rfl rfl (R_move rfl rfl) ?_
    refine WL_splitD (s := 49) rfl (fun c2 => ?_) (fun c2 => ?_)
    · refine WL_val rfl rfl rfl (R_move rfl rfl) ?_
      refine WL_val rfl rfl rfl (R_neq rfl rfl rfl) ?_
      refine WL_val rfl rfl rfl (R_pickT rfl rfl rfl) ?_
      refine WL_nil ?_
      refine WQ_code ?_
      refine WC_dec rfl (fun c3 => ?_) (fun c3 => ?_)
      · obtain ⟨fr, hfr⟩ := (hm1).h.free
        have hfew := hd.r.few hd.t.r
        have hroom : (live (rmL d.L t.n)).length < 1024 := by omega
        have hfr1 : fr ≤ 1000000000 := by have := hfr.le; have hwl : (wl (rmL d.L t.n)).length = (live (rmL d.L t.n)).length := List.length_map ..; omega
        have hcnt : cnt (rmL d.L t.n) fr ≤ 9000000000000000000 := by have := cnt_le (rmL d.L t.n) fr; have := (hm1).r.ln; have := (hm1).nb; omega
        refine WC_seq ?_
        refine WC_region ?_
        refine WL_val rfl rfl rfl (R_move rfl rfl) ?_
        refine WL_val rfl rfl rfl (R_nilCheck rfl rfl) ?_
        refine WL_val rfl rfl rfl (R_fieldAddr rfl fa162_1 rfl) ?_
        refine WL_do0 rfl rfl (D_store (vs := [_]) rfl Tryz.sizeOf4 rfl rfl rfl rfl rfl (plY) (by exact dl_room (by rw [List.length_set]; exact hlt) (by omega))) ?_
        rintro _ _ rfl
        have hput := dl_put (pc := d.pc) (pt := m1.pt) ⟨(k : Nat), true, 0, 0⟩ (hs1) (j := 1) (vs := [.bool true]) (by simp) (by simp [putAt_cons, putAt_nil])
        rw [hput, List.set_set]
        have hs2 := set_eq (x := ⟨k, true, 0, 0⟩) hs
        refine WL_nil ?_
        refine WQ_code ?_
        refine WC_drawE (⟨some d.p, _⟩ :: tmH m1) [(0, false), (1, false), (2, false), (3, false), (4, true)] [(5, true), (6, true), (7, true), (8, true), (9, true), (10, true), (11, true), (12, false), (13, true), (14, true), (15, true), (16, true), (17, true), (18, false)] followsMixed rfl rfl (by kernel_rfl) (pqY) ?_
        refine WZ_val rfl rfl rfl rfl (R_move rfl rfl) ?_
        refine WZ_val rfl rfl rfl rfl (R_move rfl rfl) ?_
        refine WZ_val rfl rfl rfl rfl (R_nilCheck rfl rfl) ?_
        refine WZ_val rfl rfl rfl rfl (R_fieldAddr rfl fa166_1 rfl) ?_
        refine WZ_early rfl rfl rfl rfl (R_load rfl sc158 rfl (mmY) rfl) ?_
        refine WZ_rest ?_
        refine WM_val rfl rfl rfl rfl (R_move rfl rfl) ?_
        refine WM_val rfl rfl rfl rfl (R_fieldAddr rfl fa108_0 rfl) ?_
        refine WM_val rfl rfl rfl rfl (R_load rfl sc3 rfl (mmY) rfl) ?_
        refine WM_val rfl rfl rfl rfl (R_mulR (r := ((2 * fd : Nat) : Int)) rfl rfl rfl (by rw [IntWalk.i64_in _ (by omega)]; omega)) ?_
        refine WM_val rfl rfl rfl rfl (R_fieldAddr rfl fa108_1 rfl) ?_
        refine WM_val rfl rfl rfl rfl (R_load rfl sc44 rfl (mmY) rfl) ?_
        refine WM_val rfl rfl rfl rfl (R_addR (r := ((2 * fd + dir : Nat) : Int)) rfl rfl rfl (by rw [IntWalk.i64_in _ (by omega)]; omega)) ?_
        refine WM_do rfl rfl rfl rfl (D_call (mset_ok (rmL d.L t.n) m1 hm1 hroom (by omega) fr hfr k (by omega) _) rfl rfl rfl rfl (pqY)) ?_
        rintro _ _ ⟨_, ⟨m2, rfl, rfl, hmp2, hmn2, hm2⟩, rfl⟩
        refine ⟨⟨_, pqY⟩, ?_⟩
        rw [← hmp2]
        refine WM_val rfl rfl rfl rfl (R_move rfl rfl) ?_
        refine WM_val rfl rfl rfl rfl (R_extract rfl rfl rfl) ?_
        refine WM_val rfl rfl rfl rfl (R_extract rfl rfl rfl) ?_
        refine WM_val rfl rfl rfl rfl (R_nilCheck rfl rfl) ?_
        refine WM_val rfl rfl rfl rfl (R_fieldAddr rfl fa162_2 rfl) ?_
        refine WM_do0 rfl rfl rfl (D_store (vs := [_, _]) rfl Tryz.sizeOf160 rfl rfl rfl rfl rfl (plY) (by exact dl_room (by rw [List.length_set]; exact hlt) (by omega))) ?_
        rintro _ _ rfl
        refine ⟨⟨_, pqY⟩, ?_⟩
        have hput := dl_put (pc := d.pc) (pt := m2.pt) ⟨(k : Nat), true, fr, cnt (rmL d.L t.n) fr⟩ (hs2) (j := 2) (vs := [.int .i64 (fr : Int), .int .i64 (cnt (rmL d.L t.n) fr : Int)]) (by simp) (by simp [putAt_cons, putAt_nil])
        rw [hput, List.set_set]
        refine WM_nil ?_
        refine WQ_code ?_
        refine WC_seq ?_
        refine WC_region ?_
        refine WL_val rfl rfl rfl (R_move rfl rfl) ?_
        refine WL_val rfl rfl rfl (R_move rfl rfl) ?_
        refine WL_val rfl rfl rfl (R_nilCheck rfl rfl) ?_
        refine WL_val rfl rfl rfl (R_fieldAddr rfl fa166_0 rfl) ?_
        refine WL_val rfl rfl rfl (R_load rfl sc155 rfl (mmY) rfl) ?_
        refine WL_do rfl rfl rfl (D_call (vnow_ok d.pc now) rfl rfl rfl rfl (pqY)) ?_
        rintro _ _ ⟨_, ⟨rfl, rfl⟩, rfl⟩
        refine WL_do rfl rfl rfl (D_call (passn_ok k now hd.r.nv) rfl rfl rfl rfl (pqY)) ?_
        rintro _ _ ⟨_, ⟨rfl, rfl⟩, rfl⟩
        refine WL_val rfl rfl rfl (R_assign rfl rfl) ?_
        refine WL_val rfl rfl rfl (R_assign rfl rfl) ?_
        refine WL_nil ?_
        refine WQ_code ?_
        refine WC_ret ?_
        refine WQ_ret rfl rfl (.cons (.tmp rfl) (.cons (.tmp rfl) .nil)) rfl (by
            exact ⟨⟨d.p, d.pc, (rmL d.L t.n) ++ [⟨fr, cnt (rmL d.L t.n) fr, ((2 * fd + dir : Nat) : Int), k, false, m1.g.n + 1⟩], d.S.set (2 * fd + dir) ⟨k, true, fr, cnt (rmL d.L t.n) fr⟩, m2⟩, rfl, rfl, rfl, by dsimp only; omega, ⟨hd.r.on hs (hd.r.cut hd.t.r hs ht hg hn ho) (by omega) (by omega) fr (cnt (rmL d.L t.n) fr) _ hfr1 hcnt, hm2⟩⟩) (pqY)
      · refine WC_skip ?_
        refine WQ_code ?_
        refine WC_seq ?_
        refine WC_region ?_
        refine WL_val rfl rfl rfl (R_move rfl rfl) ?_
        refine WL_val rfl rfl rfl (R_move rfl rfl) ?_
        refine WL_val rfl rfl rfl (R_nilCheck rfl rfl) ?_
        refine WL_val rfl rfl rfl (R_fieldAddr rfl fa166_0 rfl) ?_
        refine WL_val rfl rfl rfl (R_load rfl sc155 rfl (mmY) rfl) ?_
        refine WL_do rfl rfl rfl (D_call (vnow_ok d.pc now) rfl rfl rfl rfl (pqY)) ?_
        rintro _ _ ⟨_, ⟨rfl, rfl⟩, rfl⟩
        refine WL_do rfl rfl rfl (D_call (passn_ok k now hd.r.nv) rfl rfl rfl rfl (pqY)) ?_
        rintro _ _ ⟨_, ⟨rfl, rfl⟩, rfl⟩
        refine WL_val rfl rfl rfl (R_assign rfl rfl) ?_
        refine WL_val rfl rfl rfl (R_assign rfl rfl) ?_
        refine WL_nil ?_
        refine WQ_code ?_
        refine WC_ret ?_
        refine WQ_ret rfl rfl (.cons (.tmp rfl) (.cons (.tmp rfl) .nil)) rfl (by
            exact ⟨⟨d.p, d.pc, (rmL d.L t.n), d.S.set (2 * fd + dir) ⟨k, false, 0, 0⟩, m1⟩, rfl, rfl, rfl, by dsimp only; omega, ⟨hd.r.off hs (hd.r.cut hd.t.r hs ht hg hn ho) hk (by omega), hm1⟩⟩) (pqY)
    · refine WL_skip rfl rfl rfl ?_
      refine WL_skip rfl rfl rfl ?_
      refine WL_val rfl rfl rfl (R_pickF rfl rfl rfl) ?_
      refine WL_nil ?_
      refine WQ_code ?_
      refine WC_F rfl ?_
      refine WC_skip ?_
      refine WQ_code ?_
      refine WC_seq ?_
      refine WC_region ?_
      refine WL_val rfl rfl rfl (R_move rfl rfl) ?_
      refine WL_val rfl rfl rfl (R_move rfl rfl) ?_
      refine WL_val rfl rfl rfl (R_nilCheck rfl rfl) ?_
      refine WL_val rfl rfl rfl (R_fieldAddr rfl fa166_0 rfl) ?_
      refine WL_val rfl rfl rfl (R_load rfl sc155 rfl (mmY) rfl) ?_
      refine WL_do rfl rfl rfl (D_call (vnow_ok d.pc now) rfl rfl rfl rfl (pqY)) ?_
      rintro _ _ ⟨_, ⟨rfl, rfl⟩, rfl⟩
      refine WL_do rfl rfl rfl (D_call (passn_ok k now hd.r.nv) rfl rfl rfl rfl (pqY)) ?_
      rintro _ _ ⟨_, ⟨rfl, rfl⟩, rfl⟩
      refine WL_val rfl rfl rfl (R_assign rfl rfl) ?_
      refine WL_val rfl rfl rfl (R_assign rfl rfl) ?_
      refine WL_nil ?_
      refine WQ_code ?_
      refine WC_ret ?_
      refine WQ_ret rfl rfl (.cons (.tmp rfl) (.cons (.tmp rfl) .nil)) rfl (by
          exact ⟨⟨d.p, d.pc, (rmL d.L t.n), d.S.set (2 * fd + dir) ⟨k, false, 0, 0⟩, m1⟩, rfl, rfl, rfl, by dsimp only; omega, ⟨hd.r.off hs (hd.r.cut hd.t.r hs ht hg hn ho) hk (by omega), hm1⟩⟩) (pqY)
  · have hset : s.set = false := by simpa using c1
    refine WC_skip ?_
    refine WQ_code ?_
    refine WC_seq ?_
    refine WC_region ?_
    refine WL_val rfl rfl rfl (R_move rfl rfl) ?_
    refine WL_val rfl rfl rfl (R_move rfl rfl) ?_
    refine WL_val rfl rfl rfl (R_build rfl zv162 pl162 rfl rfl) ?_
    refine WL_val rfl rfl rfl (R_nilCheck rfl rfl) ?_
    refine WL_do0 rfl rfl (D_store (vs := [_, _, _, _]) rfl Tryz.sizeOf162 rfl rfl rfl rfl rfl (plY) (by exact dl_room hlt (j := 0) (by omega))) ?_
    rintro _ _ rfl
    have hput := dl_put (pc := d.pc) (pt := d.m.pt) ⟨(k : Nat), false, 0, 0⟩ (hs) (j := 0) (vs := [.int .u64 (k : Int), .bool false, .int .i64 0, .int .i64 0]) (by simp) (by simp [putAt_cons, putAt_nil])
    rw [Nat.add_zero] at hput
    rw [hput]
    have hs1 := set_eq (x := ⟨k, false, 0, 0⟩) hs
    refine WL_nil ?_
    refine WQ_code ?_
    refine WC_seq ?_
    refine WC_seq ?_
    refine WC_region ?_
    refine WL_val rfl rfl rfl (R_move rfl rfl) ?_
    refine WL_val rfl rfl rfl (R_move rfl rfl) ?_
    refine WL_val rfl rfl rfl (R_nilCheck rfl rfl) ?_
    refine WL_val rfl rfl rfl (R_fieldAddr rfl fa166_0 rfl) ?_
    refine WL_val rfl rfl rfl (R_load rfl sc155 rfl (mmY) rfl) ?_
    refine WL_do rfl rfl rfl (D_call (vnow_ok d.pc now) rfl rfl rfl rfl (pqY)) ?_
    rintro _ _ ⟨_, ⟨rfl, rfl⟩, rfl⟩
    refine WL_val rfl rfl rfl (R_gtr rfl rfl rfl) ?_
    refine WL_val rfl rfl rfl (R_move rfl rfl) ?_
    refine WL_splitD (s := 49) rfl (fun c4 => ?_) (fun c4 => ?_)
    · refine WL_val rfl rfl rfl (R_move rfl rfl) ?_
      refine WL_val rfl rfl rfl (R_neq rfl rfl rfl) ?_
      refine WL_val rfl rfl rfl (R_pickT rfl rfl rfl) ?_
      refine WL_nil ?_
      refine WQ_code ?_
      refine WC_dec rfl (fun c5 => ?_) (fun c5 => ?_)
      · obtain ⟨fr, hfr⟩ := (hd.t).h.free
        have hfew := hd.r.few hd.t.r
        have hroom : (live d.L).length < 1024 := by omega
        have hfr1 : fr ≤ 1000000000 := by have := hfr.le; have hwl : (wl d.L).length = (live d.L).length := List.length_map ..; omega
        have hcnt : cnt d.L fr ≤ 9000000000000000000 := by have := cnt_le d.L fr; have := (hd.t).r.ln; have := (hd.t).nb; omega
        refine WC_seq ?_
        refine WC_region ?_
        refine WL_val rfl rfl rfl (R_move rfl rfl) ?_
        refine WL_val rfl rfl rfl (R_nilCheck rfl rfl) ?_
        refine WL_val rfl rfl rfl (R_fieldAddr rfl fa162_1 rfl) ?_
        refine WL_do0 rfl rfl (D_store (vs := [_]) rfl Tryz.sizeOf4 rfl rfl rfl rfl rfl (plY) (by exact dl_room (by rw [List.length_set]; exact hlt) (by omega))) ?_
        rintro _ _ rfl
        have hput := dl_put (pc := d.pc) (pt := d.m.pt) ⟨(k : Nat), true, 0, 0⟩ (hs1) (j := 1) (vs := [.bool true]) (by simp) (by simp [putAt_cons, putAt_nil])
        rw [hput, List.set_set]
        have hs2 := set_eq (x := ⟨k, true, 0, 0⟩) hs
        refine WL_nil ?_
        refine WQ_code ?_
        refine WC_drawE (⟨some d.p, _⟩ :: tmH d.m) [(0, false), (1, false), (2, false), (3, false), (4, true)] [(5, true), (6, true), (7, true), (8, true), (9, true), (10, true), (11, true), (12, false), (13, true), (14, true), (15, true), (16, true), (17, true), (18, false)] followsMixed rfl rfl (by kernel_rfl) (pqY) ?_
        refine WZ_val rfl rfl rfl rfl (R_move rfl rfl) ?_
        refine WZ_val rfl rfl rfl rfl (R_move rfl rfl) ?_
        refine WZ_val rfl rfl rfl rfl (R_nilCheck rfl rfl) ?_
        refine WZ_val rfl rfl rfl rfl (R_fieldAddr rfl fa166_1 rfl) ?_
        refine WZ_early rfl rfl rfl rfl (R_load rfl sc158 rfl (mmY) rfl) ?_
        refine WZ_rest ?_
        refine WM_val rfl rfl rfl rfl (R_move rfl rfl) ?_
        refine WM_val rfl rfl rfl rfl (R_fieldAddr rfl fa108_0 rfl) ?_
        refine WM_val rfl rfl rfl rfl (R_load rfl sc3 rfl (mmY) rfl) ?_
        refine WM_val rfl rfl rfl rfl (R_mulR (r := ((2 * fd : Nat) : Int)) rfl rfl rfl (by rw [IntWalk.i64_in _ (by omega)]; omega)) ?_
        refine WM_val rfl rfl rfl rfl (R_fieldAddr rfl fa108_1 rfl) ?_
        refine WM_val rfl rfl rfl rfl (R_load rfl sc44 rfl (mmY) rfl) ?_
        refine WM_val rfl rfl rfl rfl (R_addR (r := ((2 * fd + dir : Nat) : Int)) rfl rfl rfl (by rw [IntWalk.i64_in _ (by omega)]; omega)) ?_
        refine WM_do rfl rfl rfl rfl (D_call (mset_ok d.L d.m hd.t hroom (by omega) fr hfr k (by omega) _) rfl rfl rfl rfl (pqY)) ?_
        rintro _ _ ⟨_, ⟨m2, rfl, rfl, hmp2, hmn2, hm2⟩, rfl⟩
        refine ⟨⟨_, pqY⟩, ?_⟩
        rw [← hmp2]
        refine WM_val rfl rfl rfl rfl (R_move rfl rfl) ?_
        refine WM_val rfl rfl rfl rfl (R_extract rfl rfl rfl) ?_
        refine WM_val rfl rfl rfl rfl (R_extract rfl rfl rfl) ?_
        refine WM_val rfl rfl rfl rfl (R_nilCheck rfl rfl) ?_
        refine WM_val rfl rfl rfl rfl (R_fieldAddr rfl fa162_2 rfl) ?_
        refine WM_do0 rfl rfl rfl (D_store (vs := [_, _]) rfl Tryz.sizeOf160 rfl rfl rfl rfl rfl (plY) (by exact dl_room (by rw [List.length_set]; exact hlt) (by omega))) ?_
        rintro _ _ rfl
        refine ⟨⟨_, pqY⟩, ?_⟩
        have hput := dl_put (pc := d.pc) (pt := m2.pt) ⟨(k : Nat), true, fr, cnt d.L fr⟩ (hs2) (j := 2) (vs := [.int .i64 (fr : Int), .int .i64 (cnt d.L fr : Int)]) (by simp) (by simp [putAt_cons, putAt_nil])
        rw [hput, List.set_set]
        refine WM_nil ?_
        refine WQ_code ?_
        refine WC_seq ?_
        refine WC_region ?_
        refine WL_val rfl rfl rfl (R_move rfl rfl) ?_
        refine WL_val rfl rfl rfl (R_move rfl rfl) ?_
        refine WL_val rfl rfl rfl (R_nilCheck rfl rfl) ?_
        refine WL_val rfl rfl rfl (R_fieldAddr rfl fa166_0 rfl) ?_
        refine WL_val rfl rfl rfl (R_load rfl sc155 rfl (mmY) rfl) ?_
        refine WL_do rfl rfl rfl (D_call (vnow_ok d.pc now) rfl rfl rfl rfl (pqY)) ?_
        rintro _ _ ⟨_, ⟨rfl, rfl⟩, rfl⟩
        refine WL_do rfl rfl rfl (D_call (passn_ok k now hd.r.nv) rfl rfl rfl rfl (pqY)) ?_
        rintro _ _ ⟨_, ⟨rfl, rfl⟩, rfl⟩
        refine WL_val rfl rfl rfl (R_assign rfl rfl) ?_
        refine WL_val rfl rfl rfl (R_assign rfl rfl) ?_
        refine WL_nil ?_
        refine WQ_code ?_
        refine WC_ret ?_
        refine WQ_ret rfl rfl (.cons (.tmp rfl) (.cons (.tmp rfl) .nil)) rfl (by
            exact ⟨⟨d.p, d.pc, d.L ++ [⟨fr, cnt d.L fr, ((2 * fd + dir : Nat) : Int), k, false, d.m.g.n + 1⟩], d.S.set (2 * fd + dir) ⟨k, true, fr, cnt d.L fr⟩, m2⟩, rfl, rfl, rfl, by dsimp only; omega, ⟨hd.r.on hs (hd.r.cut0 hs hset) (by omega) (by omega) fr (cnt d.L fr) _ hfr1 hcnt, hm2⟩⟩) (pqY)
      · refine WC_skip ?_
        refine WQ_code ?_
        refine WC_seq ?_
        refine WC_region ?_
        refine WL_val rfl rfl rfl (R_move rfl rfl) ?_
        refine WL_val rfl rfl rfl (R_move rfl rfl) ?_
        refine WL_val rfl rfl rfl (R_nilCheck rfl rfl) ?_
        refine WL_val rfl rfl rfl (R_fieldAddr rfl fa166_0 rfl) ?_
        refine WL_val rfl rfl rfl (R_load rfl sc155 rfl (mmY) rfl) ?_
        refine WL_do rfl rfl rfl (D_call (vnow_ok d.pc now) rfl rfl rfl rfl (pqY)) ?_
        rintro _ _ ⟨_, ⟨rfl, rfl⟩, rfl⟩
        refine WL_do rfl rfl rfl (D_call (passn_ok k now hd.r.nv) rfl rfl rfl rfl (pqY)) ?_
        rintro _ _ ⟨_, ⟨rfl, rfl⟩, rfl⟩
        refine WL_val rfl rfl rfl (R_assign rfl rfl) ?_
        refine WL_val rfl rfl rfl (R_assign rfl rfl) ?_
        refine WL_nil ?_
        refine WQ_code ?_
        refine WC_ret ?_
        refine WQ_ret rfl rfl (.cons (.tmp rfl) (.cons (.tmp rfl) .nil)) rfl (by
            exact ⟨⟨d.p, d.pc, d.L, d.S.set (2 * fd + dir) ⟨k, false, 0, 0⟩, d.m⟩, rfl, rfl, rfl, by dsimp only; omega, ⟨hd.r.off hs (hd.r.cut0 hs hset) hk (by omega), hd.t⟩⟩) (pqY)
    · refine WL_skip rfl rfl rfl ?_
      refine WL_skip rfl rfl rfl ?_
      refine WL_val rfl rfl rfl (R_pickF rfl rfl rfl) ?_
      refine WL_nil ?_
      refine WQ_code ?_
      refine WC_F rfl ?_
      refine WC_skip ?_
      refine WQ_code ?_
      refine WC_seq ?_
      refine WC_region ?_
      refine WL_val rfl rfl rfl (R_move rfl rfl) ?_
      refine WL_val rfl rfl rfl (R_move rfl rfl) ?_
      refine WL_val rfl rfl rfl (R_nilCheck rfl rfl) ?_
      refine WL_val rfl rfl rfl (R_fieldAddr rfl fa166_0 rfl) ?_
      refine WL_val rfl rfl rfl (R_load rfl sc155 rfl (mmY) rfl) ?_
      refine WL_do rfl rfl rfl (D_call (vnow_ok d.pc now) rfl rfl rfl rfl (pqY)) ?_
      rintro _ _ ⟨_, ⟨rfl, rfl⟩, rfl⟩
      refine WL_do rfl rfl rfl (D_call (passn_ok k now hd.r.nv) rfl rfl rfl rfl (pqY)) ?_
      rintro _ _ ⟨_, ⟨rfl, rfl⟩, rfl⟩
      refine WL_val rfl rfl rfl (R_assign rfl rfl) ?_
      refine WL_val rfl rfl rfl (R_assign rfl rfl) ?_
      refine WL_nil ?_
      refine WQ_code ?_
      refine WC_ret ?_
      refine WQ_ret rfl rfl (.cons (.tmp rfl) (.cons (.tmp rfl) .nil)) rfl (by
          exact ⟨⟨d.p, d.pc, d.L, d.S.set (2 * fd + dir) ⟨k, false, 0, 0⟩, d.m⟩, rfl, rfl, rfl, by dsimp only; omega, ⟨hd.r.off hs (hd.r.cut0 hs hset) hk (by omega), hd.t⟩⟩) (pqY)
theorem dget_ok (d : DM) (hd : DIs f now d) (fd dir : Nat) (h1 : fd < 128) (h2 : dir < 2) : Spec Tryz.prog 113 [ptrH d.p, .agg #[.int .i64 (fd : Int), .int .i64 (dir : Int)]] (dlH now d) (fun r H' => r = .tuple #[.int .u64 (f (2 * fd + dir) : Int), .int .i64 0] ∧ H' = dlH now d) := by
  obtain ⟨s, hs⟩ : ∃ s, d.S[2 * fd + dir]? = some s := ⟨_, List.getElem?_eq_getElem (show 2 * fd + dir < d.S.length by rw [hd.r.len]; omega)⟩
  have hlen := hd.r.len
  have hlt : 2 * fd + dir < d.S.length := by omega
  have hsp : spotE (fd : Int) (dir : Int) = 0 := by unfold spotE; split <;> omega
  rw [← (hd.r.at_ _ s hs).1]
  refine Spec.of (E := [(0, ptrH d.p), (1, .agg #[.int .i64 (fd : Int), .int .i64 (dir : Int)])]) Tryz.func113 rfl (by kernel_rfl) Tryz.ntmps113 rfl rfl (fun w => ?_)
  refine WC_seq ?_
  refine WC_region ?_
  refine WL_do rfl rfl rfl (D_box (cs := [_, _]) rfl rfl rfl) ?_
  rintro _ _ ⟨b1, rfl, rfl⟩
  refine WL_val rfl rfl rfl (R_assign rfl rfl) ?_
  refine WL_val rfl rfl rfl (R_assign rfl rfl) ?_
  refine WL_nil ?_
  refine WQ_code ?_
  refine WC_seq ?_
  refine WC_seq ?_
  refine WC_region ?_
  refine WL_val rfl rfl rfl (R_move rfl rfl) ?_
  refine WL_val rfl rfl rfl (R_loadA (vs := [_, _]) rfl ag108 rfl (mmY) rfl (atZ)) ?_
  refine WL_do rfl rfl rfl (D_call (dcheck_ok d.p d.pc d.m.pt d.S (fd : Int) (dir : Int)) rfl rfl rfl rfl (pqY)) ?_
  rintro _ _ ⟨_, ⟨rfl, rfl⟩, rfl⟩
  refine WL_val rfl rfl rfl (R_assign rfl rfl) ?_
  refine WL_nil ?_
  refine WQ_code ?_
  refine WC_seq ?_
  refine WC_region ?_
  refine WL_val rfl rfl rfl (R_move rfl rfl) ?_
  refine WL_val rfl rfl rfl (R_neq rfl rfl rfl) ?_
  refine WL_nil ?_
  refine WQ_code ?_
  refine WC_dF rfl (by omega) ?_
  refine WC_skip ?_
  refine WQ_code ?_
  refine WC_seq ?_
  refine WC_draw _ [(0, true), (1, true), (2, true), (3, true), (4, true), (5, true), (6, true), (7, true), (8, true), (9, true), (10, true), (11, true), (12, true)] followsMixed rfl rfl (by kernel_rfl) .all ?_
  refine WM_val rfl rfl rfl rfl (R_move rfl rfl) ?_
  refine WM_val rfl rfl rfl rfl (R_fieldAddr rfl fa108_0 rfl) ?_
  refine WM_val rfl rfl rfl rfl (R_load rfl sc3 rfl (mmY) rfl) ?_
  refine WM_val rfl rfl rfl rfl (R_fieldAddr rfl fa108_1 rfl) ?_
  refine WM_val rfl rfl rfl rfl (R_load rfl sc44 rfl (mmY) rfl) ?_
  refine WM_val rfl rfl rfl rfl (R_nilCheck rfl rfl) ?_
  refine WM_val rfl rfl rfl rfl (R_fieldAddr rfl fa166_2 rfl) ?_
  refine WM_val rfl rfl rfl rfl (R_indexAddrAN rfl Tryz.underlying164 Tryz.sizeOf163 rfl rfl (by omega)) ?_
  refine WM_val rfl rfl rfl rfl (R_indexAddrAN rfl Tryz.underlying163 Tryz.sizeOf162 rfl rfl (by omega)) ?_
  refine WM_val rfl rfl rfl rfl (R_fieldAddr rfl fa162_0 rfl) ?_
  refine WM_val rfl rfl rfl rfl (R_load (v := .int .u64 (s.at_ : Int)) rfl sc28 rfl (mmY) (dl_get hs (j := 0) (by omega))) ?_
  refine WM_val rfl rfl rfl rfl (R_assign rfl rfl) ?_
  refine WM_val rfl rfl rfl rfl (R_assign rfl rfl) ?_
  refine WM_nil ?_
  refine WQ_code ?_
  refine WC_ret ?_
  refine WQ_ret rfl rfl (.cons (.tmp rfl) (.cons (.tmp rfl) .nil)) rfl (by
      exact ⟨rfl, rfl⟩) (pqY)
theorem dpass_ok (d : DM) (hd : DIs f now d) (fd dir : Nat) (h1 : fd < 128) (h2 : dir < 2) : Spec Tryz.prog 54 [ptrH d.p, .agg #[.int .i64 (fd : Int), .int .i64 (dir : Int)]] (dlH now d) (fun r H' => r = .tuple #[.bool (decide (f (2 * fd + dir) ≤ now)), .int .i64 0] ∧ H' = dlH now d) := by
  refine Spec.of (E := [(0, ptrH d.p), (1, .agg #[.int .i64 (fd : Int), .int .i64 (dir : Int)])]) Tryz.func54 rfl (by kernel_rfl) Tryz.ntmps54 rfl rfl (fun w => ?_)
  refine WC_seq ?_
  refine WC_region ?_
  refine WL_do rfl rfl rfl (D_box (cs := [_, _]) rfl rfl rfl) ?_
  rintro _ _ ⟨b1, rfl, rfl⟩
  refine WL_val rfl rfl rfl (R_assign rfl rfl) ?_
  refine WL_val rfl rfl rfl (R_assign rfl rfl) ?_
  refine WL_nil ?_
  refine WQ_code ?_
  refine WC_seq ?_
  refine WC_region ?_
  refine WL_val rfl rfl rfl (R_move rfl rfl) ?_
  refine WL_val rfl rfl rfl (R_loadA (vs := [_, _]) rfl ag108 rfl (mmY) rfl (atZ)) ?_
  refine WL_do rfl rfl rfl (D_call (dget_ok d hd fd dir h1 h2) rfl rfl rfl rfl (pqY)) ?_
  rintro _ _ ⟨_, ⟨rfl, rfl⟩, rfl⟩
  refine WL_val rfl rfl rfl (R_move rfl rfl) ?_
  refine WL_val rfl rfl rfl (R_extract rfl rfl rfl) ?_
  refine WL_val rfl rfl rfl (R_extract rfl rfl rfl) ?_
  refine WL_val rfl rfl rfl (R_assign rfl rfl) ?_
  refine WL_val rfl rfl rfl (R_assign rfl rfl) ?_
  refine WL_nil ?_
  refine WQ_code ?_
  refine WC_seq ?_
  refine WC_region ?_
  refine WL_val rfl rfl rfl (R_move rfl rfl) ?_
  refine WL_val rfl rfl rfl (R_eql rfl rfl rfl) ?_
  refine WL_val rfl rfl rfl (R_move rfl rfl) ?_
  refine WL_set (s := 16) (v := .bool true) rfl (by simp) ?_
  refine WL_val rfl rfl rfl (R_move rfl rfl) ?_
  refine WL_val rfl rfl rfl (R_move rfl rfl) ?_
  refine WL_val rfl rfl rfl (R_nilCheck rfl rfl) ?_
  refine WL_val rfl rfl rfl (R_fieldAddr rfl fa166_0 rfl) ?_
  refine WL_val rfl rfl rfl (R_load rfl sc155 rfl (mmY) rfl) ?_
  refine WL_do rfl rfl rfl (D_call (vnow_ok d.pc now) rfl rfl rfl rfl (pqY)) ?_
  rintro _ _ ⟨_, ⟨rfl, rfl⟩, rfl⟩
  refine WL_do rfl rfl rfl (D_call (passn_ok _ now hd.r.nv) rfl rfl rfl rfl (pqY)) ?_
  rintro _ _ ⟨_, ⟨rfl, rfl⟩, rfl⟩
  refine WL_val rfl rfl rfl (R_pickT rfl rfl rfl) ?_
  refine WL_val rfl rfl rfl (R_move rfl rfl) ?_
  refine WL_val rfl rfl rfl (R_assign rfl rfl) ?_
  refine WL_val rfl rfl rfl (R_assign rfl rfl) ?_
  refine WL_nil ?_
  refine WQ_code ?_
  refine WC_ret ?_
  refine WQ_ret rfl rfl (.cons (.tmp rfl) (.cons (.tmp rfl) .nil)) rfl (by
      exact ⟨rfl, rfl⟩) (pqY)
def clrF (f : Nat → Nat) (fd : Nat) : Nat → Nat → Nat
  | 0 => f
  | j + 1 => updF (clrF f fd j) (2 * fd + j) 18446744073709551615
structure DjW where
  j : Nat
  d : DM
theorem dclear_ok (d : DM) (hd : DIs f now d) (fd : Nat) (h1 : fd < 128) (hb : d.m.g.n + 2 < 9000000000000000000) : Spec Tryz.prog 44 [ptrH d.p, .int .i64 (fd : Int)] (dlH now d) (fun r H' => ∃ d' : DM, r = .int .i64 0 ∧ H' = dlH now d' ∧ d'.p = d.p ∧ d'.m.g.n ≤ d.m.g.n + 2 ∧ DIs (clrF f fd 2) now d') := by
  refine Spec.of (E := [(0, ptrH d.p), (1, .int .i64 (fd : Int))]) Tryz.func44 rfl (by kernel_rfl) Tryz.ntmps44 rfl rfl (fun w => ?_)
  refine WC_seq ?_
  refine WC_region ?_
  refine WL_val rfl rfl rfl (R_assign rfl rfl) ?_
  refine WL_nil ?_
  refine WQ_code ?_
  refine WC_seq ?_
  refine WC_seq ?_
  refine WC_region ?_
  refine WL_val rfl rfl rfl (R_move rfl rfl) ?_
  refine WL_val rfl rfl rfl (R_move rfl rfl) ?_
  refine WL_do rfl rfl rfl (D_call (dfile_ok d.p d.pc d.m.pt d.S (fd : Int)) rfl rfl rfl rfl (pqY)) ?_
  rintro _ _ ⟨_, ⟨rfl, rfl⟩, rfl⟩
  refine WL_val rfl rfl rfl (R_assign rfl rfl) ?_
  refine WL_nil ?_
  refine WQ_code ?_
  refine WC_seq ?_
  refine WC_region ?_
  refine WL_val rfl rfl rfl (R_move rfl rfl) ?_
  refine WL_val rfl rfl rfl (R_neq rfl rfl rfl) ?_
  refine WL_nil ?_
  refine WQ_code ?_
  refine WC_dF rfl (by unfold fileE; split <;> omega) ?_
  refine WC_skip ?_
  refine WQ_code ?_
  refine WC_seq ?_
  refine WC_seq ?_
  refine WC_region ?_
  refine WL_val rfl rfl rfl (R_assign rfl rfl) ?_
  refine WL_nil ?_
  refine WQ_code ?_
  refine WC_block ?_
  refine WC_loopF (G := DjW) [6, 13, 14, 15, 16, 17, 18, 19, 20, 21] (fun y => y.j ≤ 2 ∧ DIs (clrF f fd y.j) now y.d ∧ y.d.p = d.p ∧ y.d.m.g.n ≤ d.m.g.n + y.j) (fun y => [(6, .int .i64 (y.j : Int))]) (fun y => dlH now y.d) (fun y => 2 - y.j) (⟨0, d⟩) (⟨Nat.zero_le _, hd, rfl, Nat.le_refl _⟩) leZ (pqY) ?_
  rintro y ⟨hyj, hy, hyp, hyn⟩
  rw [← hyp]
  refine WC_seq ?_
  refine WC_seq ?_
  refine WC_region ?_
  refine WL_val rfl rfl rfl (R_move rfl rfl) ?_
  refine WL_val rfl rfl rfl (R_leq rfl rfl rfl) ?_
  refine WL_nil ?_
  refine WQ_code ?_
  refine WC_dec rfl (fun c1 => ?_) (fun c1 => ?_)
  · refine WC_skip ?_
    refine WQ_code ?_
    refine WC_seq ?_
    refine WC_block ?_
    refine WC_region ?_
    refine WL_val rfl rfl rfl (R_move rfl rfl) ?_
    refine WL_val rfl rfl rfl (R_move rfl rfl) ?_
    refine WL_val rfl rfl rfl (R_move rfl rfl) ?_
    refine WL_val rfl rfl rfl (R_build rfl zv108 pl108 rfl rfl) ?_
    refine WL_do rfl rfl rfl (D_call (dset_ok y.d hy fd y.j h1 (by omega) 18446744073709551615 (Nat.le_refl _) (by omega)) rfl rfl rfl rfl (pqY)) ?_
    rintro _ _ ⟨_, ⟨d', rfl, rfl, hdp, hdn, hd'⟩, rfl⟩
    refine WL_nil ?_
    refine WQ_code ?_
    refine WC_region ?_
    refine WL_val rfl rfl rfl (R_move rfl rfl) ?_
    refine WL_val rfl rfl rfl (R_add rfl rfl rfl (by omega)) ?_
    refine WL_val rfl rfl rfl (R_assign rfl rfl) ?_
    refine WL_nil ?_
    rw [← hdp]
    refine WQ_nextF (⟨y.j + 1, d'⟩) (⟨by dsimp only; omega, hd', rfl, by dsimp only; omega⟩) (by dsimp only; omega) leZ (psZ) rfl (pqY)
  · refine WC_exit ?_
    refine WQ_code ?_
    refine WC_seq ?_
    refine WC_region ?_
    refine WL_val rfl rfl rfl (R_assign rfl rfl) ?_
    refine WL_nil ?_
    refine WQ_code ?_
    refine WC_ret ?_
    refine WQ_ret rfl rfl (.cons (.tmp rfl) .nil) rfl (by
        have hj2 : y.j = 2 := by omega
        exact ⟨y.d, rfl, rfl, rfl, by omega, by rw [← hj2]; exact hy⟩) (pqY)
end
end Go.Proofs.YtbkdebnkoidicaaGreat
end
section
namespace Go.Proofs.YtbkdebnkoidicaaGreat
open Go.Shelf Go.RowKit Go.Lib Go.Sort
/-- A world with the same blocks and new ones behind them. -/
theorem hw_grow {Hc : Heap} {W W' : World} (h : HOK Hc W) (c : HW Hc W Hc W') : ∃ q os', W' = grow (W.drewN q) os' := by
  have hb := HW.belOf h c
  refine ⟨W'.drawn - W.drawn, W'.heap.extract W.heap.size W'.heap.size, ?_⟩
  have hheap : W'.heap = W.heap ++ W'.heap.extract W.heap.size W'.heap.size := by
    apply Array.ext_getElem?
    intro k
    rw [Array.getElem?_append]
    by_cases hk : k < W.heap.size
    · rw [if_pos hk]; exact hb.block k hk
    · rw [if_neg hk, Array.getElem?_extract]
      by_cases h2 : k < W'.heap.size
      · rw [if_pos (by omega)]; congr 1; omega
      · rw [if_neg (by omega), Array.getElem?_eq_none (by omega)]
  have hdr := c.dr
  obtain ⟨hp, tp, dr, os, out⟩ := W'
  obtain ⟨hp0, tp0, dr0, os0, out0⟩ := W
  have e1 := c.os
  have e2 := c.tape
  have e3 := c.output
  dsimp only at e1 e2 e3 hdr hheap
  subst e1 e2 e3
  simp only [grow, World.drewN, World.mk.injEq, true_and, and_true]
  exact ⟨hheap, by omega⟩
section
variable {α : Type} [Inhabited α] {enc : α → Value}
theorem holds_of {w : World} {b : Nat} {e : TypeId} {d : List α} {tl : List Value} (hb : w.heap[b]? = some (cl (d.map enc ++ tl) e)) : Holds enc w b 0 d.toArray := fun j hj => by
  have hj' : j < d.length := by simpa using hj
  have hg : (d.map enc ++ tl)[j]? = some (enc d[j]) := by rw [List.getElem?_append_left (by simpa using hj'), List.getElem?_map, List.getElem?_eq_getElem hj']; rfl
  refine ⟨?_, ?_⟩
  · simp only [World.cell?, hb, cl, Nat.zero_add, List.getElem?_toArray, hg]
    simp [hj']
  · simp [World.frozen?, hb, cl]
theorem sw_hw {Hc : Heap} {w : World} {b : Nat} {e : TypeId} {d d' : List α} {tl : List Value} (hw : HOK (⟨some b, cl (d.map enc ++ tl) e⟩ :: Hc) w) (hl : d'.length = d.length) (m : Nat) (os : Array Obj) :
    HW (⟨some b, cl (d.map enc ++ tl) e⟩ :: Hc) w (⟨some b, cl (d'.map enc ++ tl) e⟩ :: Hc) (sortWorld enc w b 0 m d'.toArray os) := by
  have hb : w.heap[b]? = some (cl (d.map enc ++ tl) e) := by
    have := hw.ok _ (List.mem_cons_self ..)
    simpa [Ent.ok] using this
  have hlt := (Array.getElem?_eq_some_iff.1 hb).1
  have hput : putCells enc 0 d'.toArray (d.map enc ++ tl).toArray = (d'.map enc ++ tl).toArray := by
    apply Array.ext_getElem?
    intro k
    simp only [putCells, Array.getElem?_mapIdx, List.getElem?_toArray]
    by_cases hk : k < d'.length
    · rw [List.getElem?_append_left (by simpa using (by omega : k < d.length)), List.getElem?_append_left (by simpa using hk), List.getElem?_map, List.getElem?_map, List.getElem?_eq_getElem (by omega : k < d.length), List.getElem?_eq_getElem hk]
      simp [hk]
    · rw [List.getElem?_append_right (by simp; omega), List.getElem?_append_right (by simp; omega)]
      simp only [List.length_map, hl]
      cases tl[k - d.length]? with
      | none => rfl
      | some v => simp [hk]
  have hsame : (sortWorld enc w b 0 m d'.toArray os).heap[b]? = some (cl (d'.map enc ++ tl) e) := by
    simp only [sortWorld, grow, putRow, mapBlock, Sort.ahead, Array.getElem?_append, Array.size_modify, hlt, if_true, Array.getElem?_modify, hb, Option.map_some, cl, onCells]
    rw [hput]
  have hother : ∀ k, k < w.heap.size → k ≠ b → (sortWorld enc w b 0 m d'.toArray os).heap[k]? = w.heap[k]? := fun k hk hne => by
    simp only [sortWorld, grow, putRow, mapBlock, Sort.ahead, Array.getElem?_append, Array.size_modify, hk, if_true, Array.getElem?_modify, if_neg (Ne.symm hne)]
  have hnd := hw.nodup
  simp only [keys, List.filterMap_cons, List.nodup_cons] at hnd
  refine ⟨⟨by simp only [keys, List.filterMap_cons, List.nodup_cons]; exact hnd, fun x hx => ?_⟩, rfl, rfl, rfl, ?_, fun k hk hn => ?_, fun k hk => .inl (by simpa [keys] using hk), ?_⟩
  · rcases List.mem_cons.1 hx with rfl | hx2
    · simpa [Ent.ok] using hsame
    · have h1 := hw.ok x (List.mem_cons_of_mem _ hx2)
      cases hxb : x.b with
      | none => simp only [Ent.ok, hxb] at h1 ⊢; exact h1
      | some c =>
        simp only [Ent.ok, hxb] at h1 ⊢
        have hne : c ≠ b := fun e => hnd.1 (by subst e; exact List.mem_filterMap.2 ⟨x, hx2, hxb⟩)
        rw [hother c (Array.getElem?_eq_some_iff.1 h1).1 hne]; exact h1
  · simp [sortWorld, grow, putRow, mapBlock, Sort.ahead]
  · exact hother k hk (fun e => hn (by subst e; simp [keys]))
  · simp [sortWorld, grow, putRow, mapBlock, Sort.ahead]
end
end Go.Proofs.YtbkdebnkoidicaaGreat
end
section
namespace Go.Proofs.YtbkdebnkoidicaaGreat
open Go.Shelf Go.RowKit Go.Lib Go.Sort
section
variable {α : Type} [Inhabited α] {enc : α → List Value} {k : Nat}
theorem flat_eq (hk : ∀ x, (enc x).length = k) (d : List α) : flatK enc k d.toArray = (d.flatMap enc).toArray := by
  have hs : (d.flatMap enc).length = d.length * k := fm_length hk d
  apply Array.ext
  · simp [hs]
  · intro t h1 h2
    have ht : t < d.length * k := by simpa using h1
    have k0 : 0 < k := by rcases Nat.eq_zero_or_pos k with h | h; · subst h; simp at ht
                          · exact h
    have hi : t / k < d.length := Nat.div_lt_of_lt_mul (by rw [Nat.mul_comm]; exact ht)
    have hj : t % k < k := Nat.mod_lt t k0
    have hg := get_flatK enc k d.toArray t (by simpa using ht)
    rw [getElem!_pos _ t h1] at hg
    have hx : d[t / k]? = some d[t / k] := List.getElem?_eq_getElem hi
    have hf := fm_get hk hx hj []
    rw [List.append_nil, show t / k * k + t % k = t from by rw [Nat.mul_comm]; exact Nat.div_add_mod t k] at hf
    rw [hg]
    have e1 : d.toArray[t / k]! = d[t / k] := by simp [hi]
    rw [e1, getElem!_pos _ _ (by rw [hk]; exact hj)]
    have h3 : t < (d.flatMap enc).length := by simpa using h2
    rw [List.getElem?_eq_getElem h3, List.getElem?_eq_getElem (by rw [hk]; exact hj)] at hf
    simpa using (Option.some.inj hf).symm
theorem sortK_ok {P : Program} {ρ : Ren} (L : SlLaysF0.n6 P ρ) (f : Nat) (hf : ρ.f 6 = f) (aE : ∀ w, (isAgg (ρ.t 24)).run P w = .ok true w) (zE : ∀ w, (Go.sizeOf (ρ.t 24)).run P w = .ok k w) (hk : ∀ x, (enc x).length = k) (h1 : ∀ x, ∀ v ∈ enc x, v.oneCell' = true)
    (cf : α → α → Int) (hO : SWO (ltOf cf)) (g : Nat) (cb : List Value) (Hc : Heap) (hcmp : ∀ x y, Spec P g ([.agg (enc x).toArray, .agg (enc y).toArray] ++ cb) Hc (fun r H' => r = .int .i64 (cf x y) ∧ H' = Hc)) (hen : Enters P f)
    (b n c : Nat) (e : TypeId) (d : List α) (tl : List Value) (hn : d.length = n) (hsz : n < 4611686018427387904) :
    Spec P f [slV (some b) n c, .func (.func g) #[] cb.toArray] (⟨some b, cl (d.flatMap enc ++ tl) e⟩ :: Hc)
      (fun r H' => ∃ d' : List α, r = .tuple #[] ∧ d'.Perm d ∧ d'.Pairwise (fun x y => ltOf cf y x = false) ∧ H' = ⟨some b, cl (d'.flatMap enc ++ tl) e⟩ :: Hc) := by
  subst hf hn
  refine ⟨hen, fun w hw => callsIn_wide.2 ?_⟩
  have hb : w.heap[b]? = some (cl (d.flatMap enc ++ tl) e) := by
    have := hw.ok _ (List.mem_cons_self ..)
    simpa [Ent.ok] using this
  have hlt := (Array.getElem?_eq_some_iff.1 hb).1
  have hsw : ∀ (m : Nat) (os : Array Obj) (dk : List α), dk.length = d.length → HW (⟨some b, cl (d.flatMap enc ++ tl) e⟩ :: Hc) w (⟨some b, cl (dk.flatMap enc ++ tl) e⟩ :: Hc) (sortWorldK enc k w b 0 m dk.toArray os) := fun m os dk hdk => by
    have hw' : HOK (⟨some b, cl ((d.flatMap enc).map id ++ tl) e⟩ :: Hc) w := by rw [List.map_id]; exact hw
    have := sw_hw (enc := id) (d := d.flatMap enc) (d' := dk.flatMap enc) (tl := tl) hw' (by rw [fm_length hk, fm_length hk, hdk]) m os
    rw [List.map_id, List.map_id, ← flat_eq hk dk] at this
    exact this
  have hc : CmpLays P g cb.toArray enc k cf b 0 d.toArray.size w := fun m os dk hdk x y => by
    have hw2 := hsw m os dk.toList (by simpa using hdk)
    simp only [Array.toArray_toList] at hw2
    have hok : HOK Hc (sortWorldK enc k w b 0 m dk os) := (hw2.perm (by simpa using (List.perm_append_comm (l₁ := [_]) (l₂ := Hc)))).left.hok
    have := callsIn_wide.1 ((hcmp x y).calls _ hok)
    rw [show ((#[Value.agg (enc x).toArray, Value.agg (enc y).toArray] : Array Value) ++ cb.toArray) = ([Value.agg (enc x).toArray, Value.agg (enc y).toArray] ++ cb).toArray from by simp]
    refine this.mono fun e w' ⟨v, H', e1, ⟨e2, e3⟩, e4⟩ => ⟨by rw [e1, e2], ?_⟩
    subst e3
    exact hw_grow hok e4
  have hH : HoldsK enc k w b 0 d.toArray := by
    unfold HoldsK
    rw [flat_eq hk]
    exact holds_of (enc := id) (by rw [List.map_id]; exact hb)
  have := AnyQ.slices_SortFunc L k aE zE enc hk h1 cf hO g cb.toArray b 0 c d.toArray w (hcmp default default).enters hc hH hlt (by simpa using hsz)
  refine this.mono fun e w' ⟨he, d', m, os, hp, hs, hwe⟩ => ?_
  obtain ⟨hs1, _, hp2⟩ := hp
  have hsz2 : d'.size = d.length := by simpa using hs1
  refine ⟨_, _, he, ⟨d'.toList, rfl, ?_, ?_, rfl⟩, ?_⟩
  · have e1 : d'.extract 0 d.toArray.size = d' := by simp [← hsz2]
    have e2 : d.toArray.extract 0 d.toArray.size = d.toArray := by simp
    rw [e1, e2] at hp2
    simpa using hp2
  · rw [List.pairwise_iff_getElem]
    intro i j hi hj hij
    have := hs i j (Nat.zero_le _) hij (by simpa [hsz2] using hj)
    have hi' : i < d'.size := by simpa using hi
    have hj' : j < d'.size := by simpa using hj
    simpa [hi', hj'] using this
  · rw [hwe]
    have := hsw m os d'.toList (by simpa using hsz2)
    simpa only [Array.toArray_toList] using this
end
theorem sort_none {P : Program} {ρ : Ren} (L : SlLaysF0.n6 P ρ) (f : Nat) (hf : ρ.f 6 = f) (hen : Enters P f) (ob : Option Nat) (c : Nat) (fv : Value) : Spec P f [slV ob 0 c, fv] [] (fun r H' => r = .tuple #[] ∧ H' = []) := by
  subst hf
  refine ⟨hen, fun w hw => callsIn_wide.2 ?_⟩
  have h : ∀ p, Calls P (ρ.f 6) #[.slice p 0 c, fv] w fun e w' => e = .returned (.tuple #[]) ∧ w' = w := fun p => AnyF.slices_SortFunc_none L p c fv w
  cases ob with
  | none => exact (h none).mono fun e w' ⟨e1, e2⟩ => ⟨_, _, e1, ⟨rfl, rfl⟩, by rw [e2]; exact HW.start hw⟩
  | some b => exact (h (some ⟨b, 0, none⟩)).mono fun e w' ⟨e1, e2⟩ => ⟨_, _, e1, ⟨rfl, rfl⟩, by rw [e2]; exact HW.start hw⟩
end Go.Proofs.YtbkdebnkoidicaaGreat
end
section
set_option linter.unusedVariables false
set_option maxRecDepth 20000
namespace Go.Proofs.YtbkdebnkoidicaaGreat
open Go.Shelf
def lysK_ren : Go.Shelf.Ren := ⟨fun | 6 => 107 | 14 => 156 | 15 => 157 | 20 => 190 | 21 => 191 | 22 => 192 | 23 => 193 | 24 => 194 | 25 => 195 | 26 => 196 | 27 => 197 | 28 => 198 | 29 => 199 | 46 => 211 | 47 => 212 | 48 => 213 | 49 => 214 | 50 => 215 | 57 => 218 | n => n, fun | 0 => 0 | 3 => 3 | 4 => 4 | 5 => 5 | 9 => 9 | 22 => 72 | 24 => 117 | 25 => 203 | 39 => 41 | 45 => 304 | 46 => 305 | 50 => 309 | 53 => 312 | 55 => 27 | 66 => 323 | 70 => 327 | 76 => 330 | 77 => 138 | n => n, fun n => n⟩
theorem lysK : SlLaysF0.n6 Tryz.prog lysK_ren := {
  mixed := by kernel_rfl,
  f6 := ⟨Tryz.f107.name, by decide, Tryz.func107.trans (congrArg some (by kernel_rfl))⟩,
  f14 := ⟨Tryz.f156.name, by decide, Tryz.func156.trans (congrArg some (by kernel_rfl))⟩,
  f15 := Tryz.func157.trans (congrArg some (by kernel_rfl)),
  f20 := ⟨Tryz.f190.name, by decide, Tryz.func190.trans (congrArg some (by kernel_rfl))⟩,
  f21 := ⟨Tryz.f191.name, by decide, Tryz.func191.trans (congrArg some (by kernel_rfl))⟩,
  f22 := ⟨Tryz.f192.name, by decide, Tryz.func192.trans (congrArg some (by kernel_rfl))⟩,
  f23 := ⟨Tryz.f193.name, by decide, Tryz.func193.trans (congrArg some (by kernel_rfl))⟩,
  f24 := ⟨Tryz.f194.name, by decide, Tryz.func194.trans (congrArg some (by kernel_rfl))⟩,
  f25 := ⟨Tryz.f195.name, by decide, Tryz.func195.trans (congrArg some (by kernel_rfl))⟩,
  f26 := ⟨Tryz.f196.name, by decide, Tryz.func196.trans (congrArg some (by kernel_rfl))⟩,
  f27 := ⟨Tryz.f197.name, by decide, Tryz.func197.trans (congrArg some (by kernel_rfl))⟩,
  f28 := Tryz.func198.trans (congrArg some (by kernel_rfl)),
  f29 := Tryz.func199.trans (congrArg some (by kernel_rfl)),
  f46 := ⟨Tryz.f211.name, by decide, Tryz.func211.trans (congrArg some (by kernel_rfl))⟩,
  f47 := Tryz.func212.trans (congrArg some (by kernel_rfl)),
  f48 := Tryz.func213.trans (congrArg some (by kernel_rfl)),
  f49 := ⟨Tryz.f214.name, by decide, Tryz.func214.trans (congrArg some (by kernel_rfl))⟩,
  f50 := ⟨Tryz.f215.name, by decide, Tryz.func215.trans (congrArg some (by kernel_rfl))⟩,
  f57 := ⟨Tryz.f218.name, by decide, Tryz.func218.trans (congrArg some (by kernel_rfl))⟩,
  t0 := Tryz.underlying0,
  a0 := Tryz.isAgg0,
  z0 := Tryz.sizeOf0,
  v0 := Tryz.zeroValue0,
  t3 := Tryz.underlying3,
  a3 := Tryz.isAgg3,
  z3 := Tryz.sizeOf3,
  v3 := Tryz.zeroValue3,
  t4 := Tryz.underlying4,
  a4 := Tryz.isAgg4,
  z4 := Tryz.sizeOf4,
  v4 := Tryz.zeroValue4,
  t5 := Tryz.underlying5,
  a5 := Tryz.isAgg5,
  z5 := Tryz.sizeOf5,
  v5 := Tryz.zeroValue5,
  t9 := Tryz.underlying9,
  a9 := Tryz.isAgg9,
  z9 := Tryz.sizeOf9,
  v9 := Tryz.zeroValue9,
  t22 := Tryz.underlying72,
  a22 := Tryz.isAgg72,
  z22 := Tryz.sizeOf72,
  v22 := Tryz.zeroValue72,
  t25 := Tryz.underlying203,
  a25 := Tryz.isAgg203,
  z25 := Tryz.sizeOf203,
  v25 := Tryz.zeroValue203,
  t39 := Tryz.underlying41,
  a39 := Tryz.isAgg41,
  z39 := Tryz.sizeOf41,
  v39 := Tryz.zeroValue41,
  t45 := Tryz.underlying304,
  a45 := Tryz.isAgg304,
  z45 := Tryz.sizeOf304,
  v45 := Tryz.zeroValue304,
  t46 := Tryz.underlying305,
  a46 := Tryz.isAgg305,
  z46 := Tryz.sizeOf305,
  v46 := Tryz.zeroValue305,
  t50 := Tryz.underlying309,
  a50 := Tryz.isAgg309,
  z50 := Tryz.sizeOf309,
  v50 := Tryz.zeroValue309,
  t53 := Tryz.underlying312,
  a53 := Tryz.isAgg312,
  z53 := Tryz.sizeOf312,
  v53 := Tryz.zeroValue312,
  t55 := Tryz.underlying27,
  a55 := Tryz.isAgg27,
  z55 := Tryz.sizeOf27,
  v55 := Tryz.zeroValue27,
  t66 := Tryz.underlying323,
  a66 := Tryz.isAgg323,
  z66 := Tryz.sizeOf323,
  v66 := Tryz.zeroValue323,
  t70 := Tryz.underlying327,
  a70 := Tryz.isAgg327,
  z70 := Tryz.sizeOf327,
  v70 := Tryz.zeroValue327,
  t76 := Tryz.underlying330,
  a76 := Tryz.isAgg330,
  z76 := Tryz.sizeOf330,
  v76 := Tryz.zeroValue330,
  t77 := Tryz.underlying138,
  a77 := Tryz.isAgg138,
  z77 := Tryz.sizeOf138,
  v77 := Tryz.zeroValue138 }
end Go.Proofs.YtbkdebnkoidicaaGreat
end
section
set_option linter.unusedVariables false
set_option maxRecDepth 20000
namespace Go.Proofs.YtbkdebnkoidicaaGreat
theorem areq (a0 a1 b0 b1 : Int) (w : World) : (binOp .eql 195 (.agg #[.int .i64 a0, .int .i64 a1]) (.agg #[.int .i64 b0, .int .i64 b1])).run Tryz.prog w = .ok (.bool (decide (a0 = b0 ∧ a1 = b1))) w := by
  have hi : Tryz.prog.info? 3 = some Tryz.t3 := by kernel_rfl
  have hc : Tryz.prog.cellsOf 3 = 1 := by kernel_rfl
  rw [run_eql_struct, run_equalIn_array (P := Tryz.prog) (w := w) 9999 _ _ Tryz.underlying195 hi]
  by_cases h0 : a0 = b0 <;> by_cases h1 : a1 = b1 <;> simp [Op.eqItems, List.range_succ, part, hc, run_equalIn_int w 9998 3 .i64 .i64 _ _ Tryz.underlying3, Tryz.isAgg3, h0, h1]
theorem R_areq {X : Ctx} {E : Env} {H : Heap} {o : Oper} {x y : Operand} {t' : TypeId} {a0 a1 b0 b1 : Int} (hP : X.P = Tryz.prog) (ho : o.op = .binOp .eql 195 x y t') (hx : ev E x = some (.agg #[.int .i64 a0, .int .i64 a1])) (hy : ev E y = some (.agg #[.int .i64 b0, .int .i64 b1])) : Runs X o E H (.bool (decide (a0 = b0 ∧ a1 = b1))) :=
  R_bin ho hx hy (fun w => by rw [hP]; exact run_eqGuard_agg w _ 195 x y _ _ Tryz.eqGuardType195) (fun w => by rw [hP]; exact areq a0 a1 b0 b1 w)
end Go.Proofs.YtbkdebnkoidicaaGreat
end
section
set_option linter.unusedVariables false
set_option maxRecDepth 20000
set_option maxHeartbeats 2000000
namespace Go.Proofs.YtbkdebnkoidicaaGreat
theorem Spec.frm {P : Program} {f : FuncId} {args : List Value} {H : Heap} {post : Value → Heap → Prop} (h : Spec P f args H post) (F : Heap) : Spec P f args (H ++ F) (fun v H' => ∃ H1, post v H1 ∧ H' = H1 ++ F) :=
  ⟨h.enters, fun w hw => (h.calls w hw.left).mono fun e w' ⟨v, H', e1, p, r⟩ => ⟨v, H' ++ F, e1, ⟨H', p, rfl⟩, HW.frame (HW.start hw) (.refl _) r⟩⟩
theorem quoI {a b : Nat} (ha : a < 9223372036854775808) (hb : 1 ≤ b) : IntKind.i64.wrap (((a : Int)).tdiv (b : Int)) = ((a / b : Nat) : Int) := by
  have h : a / b ≤ a := Nat.div_le_self a b
  rw [Int.tdiv_eq_ediv_of_nonneg (by omega), show ((a : Int) / (b : Int)) = ((a / b : Nat) : Int) from (Int.natCast_ediv a b).symm]
  generalize a / b = q at *
  rw [IntWalk.i64_in _ (by omega)]
theorem tk_next {α : Type} {l : List α} {k : Nat} {x : α} (h : l[k]? = some x) : l.take (k + 1) = l.take k ++ [x] := by
  obtain ⟨h2, rfl⟩ := List.getElem?_eq_some_iff.1 h
  rw [List.take_append_getElem]
def cmpP (x0 x1 y0 y1 : Int) : Int := if x0 = y0 ∧ x1 = y1 then 0 else orL [cmpI x0 y0, cmpI x1 y1]
def cmpLp (x y : Lp) : Int := orL [cmpI x.at_ y.at_, cmpP x.fd x.dir y.fd y.dir]
theorem orL2 (a b : Int) : orL [a, b] = if a = 0 then b else a := by
  unfold orL
  by_cases h : a = 0 <;> by_cases h2 : b = 0 <;> simp [h, h2]
theorem cmpLp_lt (x y : Lp) : cmpLp x y < 0 ↔ lpLt x y := by
  unfold cmpLp lpLt
  rw [orL2, cmpP, orL2]
  unfold cmpI
  repeat' split
  all_goals omega
theorem pcmp_ok (x0 x1 y0 y1 : Int) : Spec Tryz.prog 106 [.agg #[.int .i64 x0, .int .i64 x1], .agg #[.int .i64 y0, .int .i64 y1]] [] (fun r H' => r = .int .i64 (cmpP x0 x1 y0 y1) ∧ H' = []) := by
  refine Spec.of (E := [(0, .agg #[.int .i64 x0, .int .i64 x1]), (1, .agg #[.int .i64 y0, .int .i64 y1])]) Tryz.func106 rfl (by kernel_rfl) Tryz.ntmps106 rfl rfl (fun w => ?_)
  refine WC_seq ?_
  refine WC_region ?_
  refine WL_do rfl rfl rfl (D_box (cs := [_, _]) rfl rfl rfl) ?_
  rintro _ _ ⟨b1, rfl, rfl⟩
  refine WL_do rfl rfl rfl (D_box (cs := [_, _]) rfl rfl rfl) ?_
  rintro _ _ ⟨b2, rfl, rfl⟩
  refine WL_val rfl rfl rfl (R_assign rfl rfl) ?_
  refine WL_nil ?_
  refine WQ_code ?_
  refine WC_seq ?_
  refine WC_seq ?_
  refine WC_region ?_
  refine WL_val rfl rfl rfl (R_loadA (vs := [_, _]) rfl ag195 rfl (mmY) rfl (atZ)) ?_
  refine WL_val rfl rfl rfl (R_loadA (vs := [_, _]) rfl ag195 rfl (mmY) rfl (atZ)) ?_
  refine WL_val rfl rfl rfl (R_areq rfl rfl rfl rfl) ?_
  refine WL_nil ?_
  refine WQ_code ?_
  refine WC_dec rfl (fun c1 => ?_) (fun c1 => ?_)
  · refine WC_seq ?_
    refine WC_region ?_
    refine WL_val rfl rfl rfl (R_assign rfl rfl) ?_
    refine WL_nil ?_
    refine WQ_code ?_
    refine WC_ret ?_
    refine WQ_ret rfl rfl (.cons (.tmp rfl) .nil) rfl (by
        exact ⟨congrArg (Value.int .i64) (by unfold cmpP; rw [if_pos (by assumption)]), rfl⟩) (pqY)
  · refine WC_skip ?_
    refine WQ_code ?_
    refine WC_seq ?_
    refine WC_draw _ [(0, true), (1, true), (2, true), (3, true), (4, true), (5, true), (6, true), (7, true), (8, true), (9, true), (10, false), (11, false), (12, true)] followsMixed rfl rfl (by kernel_rfl) .all ?_
    refine WM_val rfl rfl rfl rfl (R_indexAddrA rfl Tryz.underlying195 Tryz.sizeOf3 rfl rfl (by omega)) ?_
    refine WM_val rfl rfl rfl rfl (R_load rfl sc3 rfl (mmY) rfl) ?_
    refine WM_val rfl rfl rfl rfl (R_indexAddrA rfl Tryz.underlying195 Tryz.sizeOf3 rfl rfl (by omega)) ?_
    refine WM_val rfl rfl rfl rfl (R_load rfl sc3 rfl (mmY) rfl) ?_
    refine WM_call rfl (Spec.quiet (cmpi_ok _ _)) rfl rfl rfl rfl rfl rfl rfl (pqY) ?_
    refine WM_val rfl rfl rfl rfl (R_indexAddrA rfl Tryz.underlying195 Tryz.sizeOf3 rfl rfl (by omega)) ?_
    refine WM_val rfl rfl rfl rfl (R_load rfl sc3 rfl (mmY) rfl) ?_
    refine WM_val rfl rfl rfl rfl (R_indexAddrA rfl Tryz.underlying195 Tryz.sizeOf3 rfl rfl (by omega)) ?_
    refine WM_val rfl rfl rfl rfl (R_load rfl sc3 rfl (mmY) rfl) ?_
    refine WM_call rfl (Spec.quiet (cmpi_ok _ _)) rfl rfl rfl rfl rfl rfl rfl (pqY) ?_
    refine WM_do rfl rfl rfl rfl (D_buildSlice rfl si34 rfl rfl rfl) ?_
    rintro _ _ ⟨b3, rfl, rfl⟩
    refine ⟨⟨_, pqY⟩, ?_⟩
    refine WM_do rfl rfl rfl rfl (D_call (or_ok b3 2 [cmpI x0 y0, cmpI x1 y1] [] (by simp)) rfl rfl rfl rfl (pqY)) ?_
    rintro _ _ ⟨_, ⟨rfl, rfl⟩, rfl⟩
    refine ⟨⟨_, pqY⟩, ?_⟩
    refine WM_val rfl rfl rfl rfl (R_assign rfl rfl) ?_
    refine WM_nil ?_
    refine WQ_code ?_
    refine WC_ret ?_
    refine WQ_ret rfl rfl (.cons (.tmp rfl) .nil) rfl (by
        exact ⟨congrArg (Value.int .i64) (by unfold cmpP; rw [if_neg (by assumption)]), rfl⟩) (pqY)
theorem pof_ok (x0 x1 : Int) : Spec Tryz.prog 111 [.agg #[.int .i64 x0, .int .i64 x1]] [] (fun r H' => r = .agg #[.int .i64 x0, .int .i64 x1] ∧ H' = []) := by
  refine Spec.of (E := [(0, .agg #[.int .i64 x0, .int .i64 x1])]) Tryz.func111 rfl (by kernel_rfl) Tryz.ntmps111 rfl rfl (fun w => ?_)
  refine WC_seq ?_
  refine WC_region ?_
  refine WL_do rfl rfl rfl (D_box (cs := [_, _]) rfl rfl rfl) ?_
  rintro _ _ ⟨b1, rfl, rfl⟩
  refine WL_do rfl rfl rfl (D_alloc rfl zv195) ?_
  rintro _ _ ⟨b2, rfl, rfl⟩
  refine WL_nil ?_
  refine WQ_code ?_
  refine WC_seq ?_
  refine WC_region ?_
  refine WL_val rfl rfl rfl (R_fieldAddr rfl fa108_0 rfl) ?_
  refine WL_val rfl rfl rfl (R_load rfl sc3 rfl (mmY) rfl) ?_
  refine WL_val rfl rfl rfl (R_fieldAddr rfl fa108_1 rfl) ?_
  refine WL_val rfl rfl rfl (R_load rfl sc44 rfl (mmY) rfl) ?_
  refine WL_val rfl rfl rfl (R_buildArr rfl Tryz.underlying195 Tryz.sizeOf3 zv195 rfl rfl) ?_
  refine WL_do0 rfl rfl (D_store (vs := [_, _]) rfl Tryz.sizeOf195 rfl rfl rfl rfl rfl (plY) (by exact Nat.le_of_ble_eq_true rfl)) ?_
  rintro _ _ rfl
  refine WL_nil ?_
  refine WQ_code ?_
  refine WC_ret ?_
  refine WQ_ret rfl rfl (.cons (.cell (vs := [_, _]) rfl ag195 (mmY) rfl (atZ)) .nil) rfl (by
      exact ⟨rfl, rfl⟩) (pqY)
theorem pspot_ok (x0 x1 : Int) : Spec Tryz.prog 105 [.agg #[.int .i64 x0, .int .i64 x1]] [] (fun r H' => r = .agg #[.int .i64 x0, .int .i64 x1] ∧ H' = []) := by
  refine Spec.of (E := [(0, .agg #[.int .i64 x0, .int .i64 x1])]) Tryz.func105 rfl (by kernel_rfl) Tryz.ntmps105 rfl rfl (fun w => ?_)
  refine WC_seq ?_
  refine WC_region ?_
  refine WL_do rfl rfl rfl (D_box (cs := [_, _]) rfl rfl rfl) ?_
  rintro _ _ ⟨b1, rfl, rfl⟩
  refine WL_do rfl rfl rfl (D_alloc rfl zv108) ?_
  rintro _ _ ⟨b2, rfl, rfl⟩
  refine WL_nil ?_
  refine WQ_code ?_
  refine WC_seq ?_
  refine WC_region ?_
  refine WL_val rfl rfl rfl (R_indexAddrA rfl Tryz.underlying195 Tryz.sizeOf3 rfl rfl (by omega)) ?_
  refine WL_val rfl rfl rfl (R_load rfl sc3 rfl (mmY) rfl) ?_
  refine WL_val rfl rfl rfl (R_indexAddrA rfl Tryz.underlying195 Tryz.sizeOf3 rfl rfl (by omega)) ?_
  refine WL_val rfl rfl rfl (R_load rfl sc3 rfl (mmY) rfl) ?_
  refine WL_val rfl rfl rfl (R_build rfl zv108 pl108 rfl rfl) ?_
  refine WL_do0 rfl rfl (D_store (vs := [_, _]) rfl Tryz.sizeOf108 rfl rfl rfl rfl rfl (plY) (by exact Nat.le_of_ble_eq_true rfl)) ?_
  rintro _ _ rfl
  refine WL_nil ?_
  refine WQ_code ?_
  refine WC_ret ?_
  refine WQ_ret rfl rfl (.cons (.cell (vs := [_, _]) rfl ag108 (mmY) rfl (atZ)) .nil) rfl (by
      exact ⟨rfl, rfl⟩) (pqY)
theorem dac_ok (x y : Lp) (bq : Nat) : Spec Tryz.prog 108 [.agg (encLp x).toArray, .agg (encLp y).toArray, ptrH bq] [⟨some bq, cl [.func (.func 106) #[] #[]] 197⟩] (fun r H' => r = .int .i64 (cmpLp x y) ∧ H' = [⟨some bq, cl [.func (.func 106) #[] #[]] 197⟩]) := by
  refine Spec.of (E := [(0, .agg (encLp x).toArray), (1, .agg (encLp y).toArray), (2, ptrH bq)]) Tryz.func108 rfl (by kernel_rfl) Tryz.ntmps108 rfl rfl (fun w => ?_)
  refine WC_seq ?_
  refine WC_region ?_
  refine WL_do rfl rfl rfl (D_box (cs := [_, _, _]) rfl rfl rfl) ?_
  rintro _ _ ⟨b1, rfl, rfl⟩
  refine WL_do rfl rfl rfl (D_box (cs := [_, _, _]) rfl rfl rfl) ?_
  rintro _ _ ⟨b2, rfl, rfl⟩
  refine WL_val rfl rfl rfl (R_assign rfl rfl) ?_
  refine WL_nil ?_
  refine WQ_code ?_
  refine WC_seq ?_
  refine WC_draw _ [(0, true), (1, true), (2, true), (3, true), (4, true), (5, true), (6, true), (7, true), (8, true), (9, true), (10, true), (11, true), (12, true), (13, false), (14, false), (15, true)] followsMixed rfl rfl (by kernel_rfl) .all ?_
  refine WM_val rfl rfl rfl rfl (R_fieldAddr rfl fa117_1 rfl) ?_
  refine WM_val rfl rfl rfl rfl (R_load rfl sc28 rfl (mmY) rfl) ?_
  refine WM_val rfl rfl rfl rfl (R_fieldAddr rfl fa117_1 rfl) ?_
  refine WM_val rfl rfl rfl rfl (R_load rfl sc28 rfl (mmY) rfl) ?_
  refine WM_call rfl (Spec.quiet (cmpt_ok _ _)) rfl rfl rfl rfl rfl rfl rfl (pqY) ?_
  refine WM_val rfl rfl rfl rfl (R_load rfl sc197 rfl (mmY) rfl) ?_
  refine WM_val rfl rfl rfl rfl (R_fieldAddr rfl fa117_0 rfl) ?_
  refine WM_val rfl rfl rfl rfl (R_loadA (vs := [_, _]) rfl ag108 rfl (mmY) rfl (atZ)) ?_
  refine WM_call rfl (Spec.quiet (pof_ok _ _)) rfl rfl rfl rfl rfl rfl rfl (pqY) ?_
  refine WM_val rfl rfl rfl rfl (R_fieldAddr rfl fa117_0 rfl) ?_
  refine WM_val rfl rfl rfl rfl (R_loadA (vs := [_, _]) rfl ag108 rfl (mmY) rfl (atZ)) ?_
  refine WM_call rfl (Spec.quiet (pof_ok _ _)) rfl rfl rfl rfl rfl rfl rfl (pqY) ?_
  refine WM_call rfl (Spec.quiet (pcmp_ok _ _ _ _)) rfl rfl rfl rfl rfl rfl rfl (pqY) ?_
  refine WM_do rfl rfl rfl rfl (D_buildSlice rfl si34 rfl rfl rfl) ?_
  rintro _ _ ⟨b3, rfl, rfl⟩
  refine ⟨⟨_, pqY⟩, ?_⟩
  refine WM_do rfl rfl rfl rfl (D_call (or_ok b3 2 [cmpI x.at_ y.at_, cmpP x.fd x.dir y.fd y.dir] [] (by simp)) rfl rfl rfl rfl (pqY)) ?_
  rintro _ _ ⟨_, ⟨rfl, rfl⟩, rfl⟩
  refine ⟨⟨_, pqY⟩, ?_⟩
  refine WM_val rfl rfl rfl rfl (R_assign rfl rfl) ?_
  refine WM_nil ?_
  refine WQ_code ?_
  refine WC_ret ?_
  refine WQ_ret rfl rfl (.cons (.tmp rfl) .nil) rfl (by
      exact ⟨rfl, rfl⟩) (pqY)
open Go.Shelf Go.RowKit Go.Lib Go.Sort
theorem dsort_ok (l : List Lp) (hl : l.length ≤ 1000000) (ob : Option Nat) (c : Nat) (tl : List Value) (own : Own ob l.length c 3 (l.flatMap encLp) tl) (bq : Nat) : Spec Tryz.prog 107 [slV ob l.length c, .func (.func 108) #[] #[ptrH bq]] [⟨ob, cl (l.flatMap encLp ++ tl) 117⟩, ⟨some bq, cl [.func (.func 106) #[] #[]] 197⟩]
    (fun r H' => ∃ l' : List Lp, r = .tuple #[] ∧ l'.Perm l ∧ l'.Pairwise (fun a b => ¬ lpLt b a) ∧ H' = [⟨ob, cl (l'.flatMap encLp ++ tl) 117⟩, ⟨some bq, cl [.func (.func 106) #[] #[]] 197⟩]) := by
  haveI : Inhabited Lp := ⟨⟨0, 0, 0⟩⟩
  cases ob with
  | none =>
    obtain ⟨h0, rfl, h2, rfl⟩ := own.void'
    have hl0 : l = [] := List.eq_nil_of_length_eq_zero h0
    subst hl0
    refine ((sort_none lysK 107 rfl (Enters.mk Tryz.func107 rfl rfl) none 0 (.func (.func 108) #[] #[ptrH bq])).frm [⟨none, cl [] 117⟩, ⟨some bq, cl [.func (.func 106) #[] #[]] 197⟩]).mono fun r H' ⟨H1, ⟨e1, e2⟩, e3⟩ => ⟨[], e1, .refl _, .nil, ?_⟩
    subst e2; exact e3
  | some b =>
    refine (sortK_ok (enc := encLp) (k := 3) lysK 107 rfl (fun w => (ag117 w).1) (fun w => (ag117 w).2) encLp3 (fun x v hv => ?_) cmpLp ?swo 108 [ptrH bq] [⟨some bq, cl [.func (.func 106) #[] #[]] 197⟩] (fun x y => dac_ok x y bq) (Enters.mk Tryz.func107 rfl rfl) b l.length c 117 l tl rfl (by omega)).mono fun r H' ⟨d', e1, e2, e3, e4⟩ => ⟨d', e1, e2, ?_, e4⟩
    · simp only [encLp, List.mem_cons, List.not_mem_nil, or_false] at hv
      rcases hv with rfl | rfl | rfl <;> rfl
    case swo =>
      refine ⟨fun x => ?_, fun x y z h1 h2 => ?_, fun x y z h1 h2 => ?_⟩
      · simp only [ltOf, decide_eq_false_iff_not, cmpLp_lt]; exact lp_irrefl x
      · simp only [ltOf, decide_eq_true_eq, cmpLp_lt] at *; exact lp_trans h1 h2
      · simp only [ltOf, decide_eq_false_iff_not, cmpLp_lt] at *; unfold lpLt at *; omega
    · refine e3.imp fun {a b} h => ?_
      simpa only [ltOf, decide_eq_false_iff_not, cmpLp_lt] using h
structure AvW where
  k : Nat
  S : List Sl
  o : List Lp
  ob : Option Nat
  c : Nat
  tl : List Value
section
variable {f : Nat → Nat} {now : Nat}
theorem dadv_never (d : DM) (hd : DIs f now d) : Spec Tryz.prog 50 [ptrH d.p, .int .u64 18446744073709551615] (dlH now d) (fun r H' => r = .tuple #[.slice none 0 0, .int .i64 2] ∧ H' = dlH now d) := by
  refine Spec.of (E := [(0, ptrH d.p), (1, .int .u64 18446744073709551615)]) Tryz.func50 rfl (by kernel_rfl) Tryz.ntmps50 rfl rfl (fun w => ?_)
  refine WC_seq ?_
  refine WC_region ?_
  refine WL_val rfl rfl rfl (R_assign rfl rfl) ?_
  refine WL_val rfl rfl rfl (R_assign rfl rfl) ?_
  refine WL_nil ?_
  refine WQ_code ?_
  refine WC_seq ?_
  refine WC_seq ?_
  refine WC_region ?_
  refine WL_val rfl rfl rfl (R_move rfl rfl) ?_
  refine WL_do rfl rfl rfl (D_call (dzero_ok d.p d.pc d.m.pt d.S) rfl rfl rfl rfl (pqY)) ?_
  rintro _ _ ⟨_, ⟨rfl, rfl⟩, rfl⟩
  refine WL_nil ?_
  refine WQ_code ?_
  refine WC_F rfl ?_
  refine WC_skip ?_
  refine WQ_code ?_
  refine WC_seq ?_
  refine WC_seq ?_
  refine WC_region ?_
  refine WL_val rfl rfl rfl (R_move rfl rfl) ?_
  refine WL_val rfl rfl rfl (R_nilCheck rfl rfl) ?_
  refine WL_val rfl rfl rfl (R_fieldAddr rfl fa166_0 rfl) ?_
  refine WL_val rfl rfl rfl (R_load rfl sc155 rfl (mmY) rfl) ?_
  refine WL_val rfl rfl rfl (R_move rfl rfl) ?_
  refine WL_do rfl rfl rfl (D_call (vadv_never d.pc now) rfl rfl rfl rfl (pqY)) ?_
  rintro _ _ ⟨_, ⟨rfl, rfl⟩, rfl⟩
  refine WL_val rfl rfl rfl (R_assign rfl rfl) ?_
  refine WL_nil ?_
  refine WQ_code ?_
  refine WC_seq ?_
  refine WC_region ?_
  refine WL_val rfl rfl rfl (R_move rfl rfl) ?_
  refine WL_val rfl rfl rfl (R_neq rfl rfl rfl) ?_
  refine WL_nil ?_
  refine WQ_code ?_
  refine WC_dT rfl (by simp) ?_
  refine WC_seq ?_
  refine WC_region ?_
  refine WL_val rfl rfl rfl (R_move rfl rfl) ?_
  refine WL_val rfl rfl rfl (R_assign rfl rfl) ?_
  refine WL_val rfl rfl rfl (R_assign rfl rfl) ?_
  refine WL_nil ?_
  refine WQ_code ?_
  refine WC_ret ?_
  refine WQ_ret rfl rfl (.cons (.tmp rfl) (.cons (.tmp rfl) .nil)) rfl (by
      exact ⟨rfl, rfl⟩) (pqY)
theorem dadv_past (d : DM) (hd : DIs f now d) (to : Nat) (h : to < now) : Spec Tryz.prog 50 [ptrH d.p, .int .u64 (to : Int)] (dlH now d) (fun r H' => r = .tuple #[.slice none 0 0, .int .i64 3] ∧ H' = dlH now d) := by
  have hnv := hd.r.nv
  refine Spec.of (E := [(0, ptrH d.p), (1, .int .u64 (to : Int))]) Tryz.func50 rfl (by kernel_rfl) Tryz.ntmps50 rfl rfl (fun w => ?_)
  refine WC_seq ?_
  refine WC_region ?_
  refine WL_val rfl rfl rfl (R_assign rfl rfl) ?_
  refine WL_val rfl rfl rfl (R_assign rfl rfl) ?_
  refine WL_nil ?_
  refine WQ_code ?_
  refine WC_seq ?_
  refine WC_seq ?_
  refine WC_region ?_
  refine WL_val rfl rfl rfl (R_move rfl rfl) ?_
  refine WL_do rfl rfl rfl (D_call (dzero_ok d.p d.pc d.m.pt d.S) rfl rfl rfl rfl (pqY)) ?_
  rintro _ _ ⟨_, ⟨rfl, rfl⟩, rfl⟩
  refine WL_nil ?_
  refine WQ_code ?_
  refine WC_F rfl ?_
  refine WC_skip ?_
  refine WQ_code ?_
  refine WC_seq ?_
  refine WC_seq ?_
  refine WC_region ?_
  refine WL_val rfl rfl rfl (R_move rfl rfl) ?_
  refine WL_val rfl rfl rfl (R_nilCheck rfl rfl) ?_
  refine WL_val rfl rfl rfl (R_fieldAddr rfl fa166_0 rfl) ?_
  refine WL_val rfl rfl rfl (R_load rfl sc155 rfl (mmY) rfl) ?_
  refine WL_val rfl rfl rfl (R_move rfl rfl) ?_
  refine WL_do rfl rfl rfl (D_call (vadv_past d.pc now to h (by omega)) rfl rfl rfl rfl (pqY)) ?_
  rintro _ _ ⟨_, ⟨rfl, rfl⟩, rfl⟩
  refine WL_val rfl rfl rfl (R_assign rfl rfl) ?_
  refine WL_nil ?_
  refine WQ_code ?_
  refine WC_seq ?_
  refine WC_region ?_
  refine WL_val rfl rfl rfl (R_move rfl rfl) ?_
  refine WL_val rfl rfl rfl (R_neq rfl rfl rfl) ?_
  refine WL_nil ?_
  refine WQ_code ?_
  refine WC_dT rfl (by simp) ?_
  refine WC_seq ?_
  refine WC_region ?_
  refine WL_val rfl rfl rfl (R_move rfl rfl) ?_
  refine WL_val rfl rfl rfl (R_assign rfl rfl) ?_
  refine WL_val rfl rfl rfl (R_assign rfl rfl) ?_
  refine WL_nil ?_
  refine WQ_code ?_
  refine WC_ret ?_
  refine WQ_ret rfl rfl (.cons (.tmp rfl) (.cons (.tmp rfl) .nil)) rfl (by
      exact ⟨rfl, rfl⟩) (pqY)
theorem dadv_ok (d : DM) (hd : DIs f now d) (to : Nat) (h1 : now ≤ to) (h2 : to < 18446744073709551615) : Spec Tryz.prog 50 [ptrH d.p, .int .u64 (to : Int)] (dlH now d)
    (fun r H' => ∃ (l : List Lp) (ob : Option Nat) (c : Nat) (tl : List Value) (d' : DM), r = .tuple #[slV ob l.length c, .int .i64 0] ∧ Own ob l.length c 3 (l.flatMap encLp) tl ∧ IsLap f now to l ∧ l.length ≤ 1024 ∧ H' = ⟨ob, cl (l.flatMap encLp ++ tl) 117⟩ :: dlH to d' ∧ d'.p = d.p ∧ d'.m.g.n = d.m.g.n ∧ DIs f to d') := by
  have hxl : (eL to d.L).2.length ≤ 1024 := by
    refine Nat.le_trans (eL_ind (fun L z => z.2.length ≤ (live L).length) (fun L _ => Nat.zero_le _) (fun L i t _ _ => Nat.zero_le _) (fun L gv n i t z r h hn ih => ?_) _ d.L d.m.gv _ hd.t.r rfl) hd.t.live_len
    have hf := fstP_some h
    have := live_rm r hf.at_ hf.g
    simp only [List.length_cons]; omega
  have hxm := eL_mem hd.t.r (now := to)
  refine Spec.of (E := [(0, ptrH d.p), (1, .int .u64 (to : Int))]) Tryz.func50 rfl (by kernel_rfl) Tryz.ntmps50 rfl rfl (fun w => ?_)
  refine WC_seq ?_
  refine WC_region ?_
  refine WL_val rfl rfl rfl (R_assign rfl rfl) ?_
  refine WL_val rfl rfl rfl (R_assign rfl rfl) ?_
  refine WL_nil ?_
  refine WQ_code ?_
  refine WC_seq ?_
  refine WC_seq ?_
  refine WC_region ?_
  refine WL_val rfl rfl rfl (R_move rfl rfl) ?_
  refine WL_do rfl rfl rfl (D_call (dzero_ok d.p d.pc d.m.pt d.S) rfl rfl rfl rfl (pqY)) ?_
  rintro _ _ ⟨_, ⟨rfl, rfl⟩, rfl⟩
  refine WL_nil ?_
  refine WQ_code ?_
  refine WC_F rfl ?_
  refine WC_skip ?_
  refine WQ_code ?_
  refine WC_seq ?_
  refine WC_seq ?_
  refine WC_region ?_
  refine WL_val rfl rfl rfl (R_move rfl rfl) ?_
  refine WL_val rfl rfl rfl (R_nilCheck rfl rfl) ?_
  refine WL_val rfl rfl rfl (R_fieldAddr rfl fa166_0 rfl) ?_
  refine WL_val rfl rfl rfl (R_load rfl sc155 rfl (mmY) rfl) ?_
  refine WL_val rfl rfl rfl (R_move rfl rfl) ?_
  refine WL_do rfl rfl rfl (D_call (vadv_ok d.pc now to h1 h2) rfl rfl rfl rfl (pqY)) ?_
  rintro _ _ ⟨_, ⟨rfl, rfl⟩, rfl⟩
  refine WL_val rfl rfl rfl (R_assign rfl rfl) ?_
  refine WL_nil ?_
  refine WQ_code ?_
  refine WC_seq ?_
  refine WC_region ?_
  refine WL_val rfl rfl rfl (R_move rfl rfl) ?_
  refine WL_val rfl rfl rfl (R_neq rfl rfl rfl) ?_
  refine WL_nil ?_
  refine WQ_code ?_
  refine WC_dF rfl (by simp) ?_
  refine WC_skip ?_
  refine WQ_code ?_
  refine WC_seq ?_
  refine WC_region ?_
  refine WL_val rfl rfl rfl (R_assign rfl rfl) ?_
  refine WL_nil ?_
  refine WQ_code ?_
  refine WC_seq ?_
  refine WC_seq ?_
  refine WC_region ?_
  refine WL_val rfl rfl rfl (R_move rfl rfl) ?_
  refine WL_val rfl rfl rfl (R_nilCheck rfl rfl) ?_
  refine WL_val rfl rfl rfl (R_fieldAddr rfl fa166_1 rfl) ?_
  refine WL_val rfl rfl rfl (R_load rfl sc158 rfl (mmY) rfl) ?_
  refine WL_val rfl rfl rfl (R_move rfl rfl) ?_
  refine WL_do rfl rfl rfl (D_call (mexp_e d.L d.m hd.t to h2) rfl rfl rfl rfl (pqY)) ?_
  rintro _ _ ⟨_, ⟨xb, xc, xt, m', rfl, xown, rfl, hmp, hmn, hm'⟩, rfl⟩
  rw [← hmp]
  refine WL_val rfl rfl rfl (R_len rfl Tryz.underlying190 rfl) ?_
  refine WL_val rfl rfl rfl (R_move rfl rfl) ?_
  refine WL_nil ?_
  refine WQ_code ?_
  refine WC_block ?_
  refine WC_none 117 ?_
  refine WC_loopF (G := AvW) [7, 9, 10, 30, 31, 32, 33, 34, 35, 36, 37, 38, 39, 40, 41, 42, 43, 44, 45, 46, 47, 48, 49, 50, 51, 52, 53, 54, 55, 56, 57, 58, 59] (fun y => y.k ≤ (eL to d.L).2.length ∧ Clr d.S y.S ((eL to d.L).2.take y.k) ∧ y.o = ((eL to d.L).2.take y.k).map lpT ∧ Own y.ob y.o.length y.c 3 (y.o.flatMap encLp) y.tl) (fun y => [(30, .int .i64 (y.k : Int)), (7, slV y.ob y.o.length y.c)]) (fun y => [⟨some d.p, cl (dlV d.pc m'.pt y.S) 166⟩, ⟨y.ob, cl (y.o.flatMap encLp ++ y.tl) 117⟩]) (fun y => (eL to d.L).2.length - y.k) (⟨0, d.S, [], none, 0, []⟩) (⟨Nat.zero_le _, by rw [List.take_zero]; exact Clr.nil _, by simp, Own.empty 3⟩) leZ (pqY) ?_
  rintro y ⟨hyk, hyS, hyo, hyw⟩
  refine WC_seq ?_
  refine WC_region ?_
  refine WL_val rfl rfl rfl (R_lss rfl rfl rfl) ?_
  refine WL_nil ?_
  refine WQ_code ?_
  refine WC_seq ?_
  refine WC_dec rfl (fun c1 => ?_) (fun c1 => ?_)
  · refine WC_skip ?_
    refine WQ_code ?_
    refine WC_seq ?_
    refine WC_block ?_
    refine WC_seq ?_
    refine WC_region ?_
    obtain ⟨t, ht⟩ := exE (T := (eL to d.L).2) (i := y.k) (by omega)
    obtain ⟨ht1, ht2, ht3⟩ := hxm t (List.mem_of_getElem? ht)
    obtain ⟨i, hi, ho, htf, htn, htN, hlpi⟩ := hd.r.lpT ht1 ht2
    have hlp : lpT t = ⟨((i / 2 : Nat) : Int), ((i % 2 : Nat) : Int), t.tm⟩ := by unfold lpT; rw [ho, Int.toNat_natCast]
    obtain ⟨xbb, rfl⟩ := xown.some_of (by omega)
    obtain ⟨s', hs'⟩ : ∃ s', y.S[2 * (i / 2) + i % 2]? = some s' := ⟨_, List.getElem?_eq_getElem (by rw [hyS.len, hd.r.len]; omega)⟩
    have hol : y.o.length = y.k := by rw [hyo, List.length_map, List.length_take]; omega
    refine WL_val rfl rfl rfl (R_indexAddrN rfl Tryz.underlying190 Tryz.sizeOf193 rfl rfl (by omega)) ?_
    refine WL_val rfl rfl rfl (R_loadA (vs := encDu t) rfl ag193 rfl (mmY) rfl (fm_at0 encDu4 ht (j := 0) (vs := encDu t) (fun j v h => by rw [Nat.zero_add]; exact h) (Nat.le_refl 4))) ?_
    refine WL_do rfl rfl rfl (D_alloc rfl zv193) ?_
    rintro _ _ ⟨b1, rfl, rfl⟩
    refine WL_do0 rfl rfl (D_store (vs := [_, _, _, _]) rfl Tryz.sizeOf193 rfl rfl rfl rfl rfl (plY) (by exact Nat.le_of_ble_eq_true rfl)) ?_
    rintro _ _ rfl
    refine WL_nil ?_
    refine WQ_code ?_
    refine WC_seq ?_
    refine WC_region ?_
    refine WL_val rfl rfl rfl (R_fieldAddr rfl fa193_1 rfl) ?_
    refine WL_val rfl rfl rfl (R_load rfl sc3 rfl (mmY) rfl) ?_
    refine WL_val rfl rfl rfl (R_quoR (r := ((i / 2 : Nat) : Int)) rfl rfl rfl (by decide) (by rw [ho]; exact quoI (b := 2) (by omega) (by omega))) ?_
    refine WL_val rfl rfl rfl (R_fieldAddr rfl fa193_1 rfl) ?_
    refine WL_val rfl rfl rfl (R_load rfl sc3 rfl (mmY) rfl) ?_
    refine WL_val rfl rfl rfl (R_remR (r := ((i % 2 : Nat) : Int)) rfl rfl rfl (by decide) (by rw [ho]; exact remN (b := 2))) ?_
    refine WL_val rfl rfl rfl (R_buildArr rfl Tryz.underlying195 Tryz.sizeOf3 zv195 rfl rfl) ?_
    refine WL_do rfl rfl rfl (D_alloc rfl zv195) ?_
    rintro _ _ ⟨b2, rfl, rfl⟩
    refine WL_do0 rfl rfl (D_store (vs := [_, _]) rfl Tryz.sizeOf195 rfl rfl rfl rfl rfl (plY) (by exact Nat.le_of_ble_eq_true rfl)) ?_
    rintro _ _ rfl
    refine WL_nil ?_
    refine WQ_code ?_
    refine WC_seq ?_
    refine WC_drawR [⟨some d.p, _⟩] [(0, true), (1, true), (2, true), (3, true), (4, true), (5, true), (6, true), (7, true), (8, true), (9, true), (10, false)] followsMixed rfl rfl (by kernel_rfl) (pqY) ?_
    refine WM_val rfl rfl rfl rfl (R_move rfl rfl) ?_
    refine WM_val rfl rfl rfl rfl (R_indexAddrA rfl Tryz.underlying195 Tryz.sizeOf3 rfl rfl (by omega)) ?_
    refine WM_val rfl rfl rfl rfl (R_load rfl sc3 rfl (mmY) rfl) ?_
    refine WM_val rfl rfl rfl rfl (R_indexAddrA rfl Tryz.underlying195 Tryz.sizeOf3 rfl rfl (by omega)) ?_
    refine WM_val rfl rfl rfl rfl (R_load rfl sc3 rfl (mmY) rfl) ?_
    refine WM_val rfl rfl rfl rfl (R_nilCheck rfl rfl) ?_
    refine WM_val rfl rfl rfl rfl (R_fieldAddr rfl fa166_2 rfl) ?_
    refine WM_val rfl rfl rfl rfl (R_indexAddrAN rfl Tryz.underlying164 Tryz.sizeOf163 rfl rfl (by omega)) ?_
    refine WM_val rfl rfl rfl rfl (R_indexAddrAN rfl Tryz.underlying163 Tryz.sizeOf162 rfl rfl (by omega)) ?_
    refine WM_val rfl rfl rfl rfl (R_fieldAddr rfl fa162_1 rfl) ?_
    refine WM_do0 rfl rfl rfl (D_store (vs := [_]) rfl Tryz.sizeOf4 rfl rfl rfl rfl rfl (plY) (by exact dl_room (by rw [hyS.len, hd.r.len]; omega) (by omega))) ?_
    rintro _ _ rfl
    refine ⟨⟨_, pqY⟩, ?_⟩
    have hput := dl_put (pc := d.pc) (pt := m'.pt) { s' with set := false } hs' (j := 1) (vs := [.bool false]) (by simp) (by simp [putAt_cons, putAt_nil])
    rw [hput]
    refine WM_nil ?_
    refine WQ_code ?_
    refine WC_drawR [⟨(y.ob), _⟩] [(0, true), (1, true), (2, true), (3, true), (4, true), (5, true), (6, false), (7, false), (8, true)] followsMixed rfl rfl (by kernel_rfl) (pqY) ?_
    refine WM_val rfl rfl rfl rfl (R_move rfl rfl) ?_
    refine WM_val rfl rfl rfl rfl (R_loadA (vs := [_, _]) rfl ag195 rfl (mmY) rfl (atZ)) ?_
    refine WM_call rfl (Spec.quiet (pspot_ok _ _)) rfl rfl rfl rfl rfl rfl rfl (pqY) ?_
    refine WM_val rfl rfl rfl rfl (R_fieldAddr rfl fa193_2 rfl) ?_
    refine WM_val rfl rfl rfl rfl (R_load rfl sc28 rfl (mmY) rfl) ?_
    refine WM_val rfl rfl rfl rfl (R_build rfl zv117 pl117 rfl rfl) ?_
    refine WM_do rfl rfl rfl rfl (D_buildSlice rfl si72 rfl rfl rfl) ?_
    rintro _ _ ⟨b3, rfl, rfl⟩
    refine ⟨⟨_, pqY⟩, ?_⟩
    refine WM_do rfl rfl rfl rfl (D_append rfl si72 rfl (hyw) (plY) rfl (mmY) ((atZ : At _ 0 [_, _, _])) (rfl) (rfl) (by omega) (by omega)) ?_
    rintro _ _ ⟨ob4, cap4, tl4, rfl, own4, rfl⟩
    refine ⟨⟨_, pqY⟩, ?_⟩
    rw [show y.o.flatMap encLp ++ [Value.int .i64 ((i / 2 : Nat) : Int), .int .i64 ((i % 2 : Nat) : Int), .int .u64 (t.tm : Int)] = (y.o ++ [lpT t]).flatMap encLp from by rw [List.flatMap_append, hlp]; rfl, show y.o.length + 1 = (y.o ++ [lpT t]).length from by rw [List.length_append]; rfl] at *
    refine WM_val rfl rfl rfl rfl (R_assign rfl rfl) ?_
    refine WM_nil ?_
    refine WQ_code ?_
    refine WC_region ?_
    refine WL_val rfl rfl rfl (R_add rfl rfl rfl (by omega)) ?_
    refine WL_val rfl rfl rfl (R_move rfl rfl) ?_
    refine WL_nil ?_
    refine WQ_nextF (⟨y.k + 1, y.S.set (2 * (i / 2) + i % 2) { s' with set := false }, y.o ++ [lpT t], ob4, cap4, tl4⟩) (⟨by dsimp only; omega, by dsimp only; rw [tk_next ht]; exact hyS.snoc (by rw [ho]; omega) hs', by dsimp only; rw [tk_next ht, List.map_append, hyo]; rfl, own4⟩) (by dsimp only; omega) leZ (psZ) rfl (pqY)
  · have hk : y.k = (eL to d.L).2.length := by omega
    have hoX : y.o = (eL to d.L).2.map lpT := by rw [hyo, hk, List.take_length]
    have hSX : Clr d.S y.S (eL to d.L).2 := by have h9 := hyS; rw [hk, List.take_length] at h9; exact h9
    have hol : y.o.length ≤ 1024 := by rw [hoX, List.length_map]; omega
    refine WC_exit ?_
    refine WQ_code ?_
    refine WC_seq ?_
    refine WC_region ?_
    refine WL_do rfl rfl rfl (D_alloc rfl zv197) ?_
    rintro _ _ ⟨b5, rfl, rfl⟩
    refine WL_do0 rfl rfl (D_store (vs := [_]) rfl Tryz.sizeOf197 rfl rfl rfl rfl rfl (plY) (by exact Nat.le_of_ble_eq_true rfl)) ?_
    rintro _ _ rfl
    refine WL_nil ?_
    refine WQ_code ?_
    refine WC_seq ?_
    refine WC_region ?_
    refine WL_val rfl rfl rfl (R_move rfl rfl) ?_
    refine WL_val rfl rfl rfl (R_makeFunc rfl rfl rfl) ?_
    refine WL_do rfl rfl rfl (D_call (dsort_ok y.o (by omega) y.ob y.c y.tl hyw b5) rfl rfl rfl rfl (pqY)) ?_
    rintro _ _ ⟨_, ⟨l2, rfl, hperm, hsort, rfl⟩, rfl⟩
    rw [← hperm.length_eq] at *
    refine WL_nil ?_
    refine WQ_code ?_
    refine WC_seq ?_
    refine WC_region ?_
    refine WL_val rfl rfl rfl (R_move rfl rfl) ?_
    refine WL_val rfl rfl rfl (R_assign rfl rfl) ?_
    refine WL_val rfl rfl rfl (R_assign rfl rfl) ?_
    refine WL_nil ?_
    refine WQ_code ?_
    refine WC_ret ?_
    refine WQ_ret rfl rfl (.cons (.tmp rfl) (.cons (.tmp rfl) .nil)) rfl (by
        exact ⟨l2, y.ob, y.c, y.tl, ⟨d.p, d.pc, (eL to d.L).1, y.S, m'⟩, rfl, hyw.like (by rw [fm_length encLp3, fm_length encLp3, hperm.length_eq]), hd.r.laps hd.t.r h2 (hoX ▸ hperm) hsort, by omega, rfl, rfl, hmn, ⟨hd.r.adv hd.t.r h1 h2 hSX, hm'⟩⟩) (pqY)
end
end Go.Proofs.YtbkdebnkoidicaaGreat
end
section
set_option linter.unusedVariables false
set_option maxRecDepth 20000
namespace Go.Proofs.YtbkdebnkoidicaaGreat
/-! ### The table of descriptors, ars functions -/
def tbAt (T : List Slt.Pl) (n g : Int) : Option (Nat × Slt.Pl) := if 0 ≤ n then (T[n.toNat]?).bind (fun x => if x.opn = true ∧ g = x.given - 1 then some (n.toNat, x) else none) else none
theorem tbAt_some {T : List Slt.Pl} {n g : Int} {i : Nat} {x : Slt.Pl} (h : tbAt T n g = some (i, x)) : Slt.OpenAt T n g i x := by
  unfold tbAt at h
  split at h
  · rename_i h0
    cases hx : T[n.toNat]? with
    | none => rw [hx] at h; cases h
    | some y =>
      rw [hx, Option.bind_some] at h
      split at h
      · rename_i hq
        simp only [Option.some.injEq, Prod.mk.injEq] at h
        obtain ⟨rfl, rfl⟩ := h
        exact ⟨by omega, hx, hq.1, hq.2⟩
      · cases h
  · cases h
theorem tbAt_of {T : List Slt.Pl} {n g : Int} {i : Nat} {x : Slt.Pl} (h : Slt.OpenAt T n g i x) : tbAt T n g = some (i, x) := by
  obtain ⟨rfl, hx, ho, hg⟩ := h
  unfold tbAt
  rw [if_pos (by omega), Int.toNat_natCast, hx, Option.bind_some, if_pos ⟨ho, hg⟩]
theorem tbAt_none {T : List Slt.Pl} {n g : Int} (h : tbAt T n g = none) : Slt.NoneAt T n g := fun i x h2 => by rw [tbAt_of h2] at h; cases h
def getT (T : List Slt.Pl) (n g : Int) : Int × Int := match tbAt T n g with | some q => (q.2.value, 0) | none => (0, 9)
def clsT (T : List Slt.Pl) (n g : Int) : List Slt.Pl := match tbAt T n g with | some q => T.set q.1 { q.2 with opn := false } | none => T
def firstC : List Slt.Pl → Nat → Option (Nat × Slt.Pl)
  | [], _ => none
  | x :: r, k => if x.opn = true then firstC r (k + 1) else some (k, x)
theorem firstC_spec : ∀ (T : List Slt.Pl) (k : Nat), (firstC T k = none ∧ ∀ (j : Nat) (y : Slt.Pl), T[j]? = some y → y.opn = true) ∨ ∃ (i : Nat) (x : Slt.Pl), firstC T k = some (k + i, x) ∧ T[i]? = some x ∧ x.opn = false ∧ ∀ (j : Nat) (y : Slt.Pl), j < i → T[j]? = some y → y.opn = true
  | [], k => .inl ⟨rfl, fun j y h => by simp at h⟩
  | x :: r, k => by
    cases ho : x.opn with
    | false => exact .inr ⟨0, x, by unfold firstC; rw [ho]; simp, rfl, ho, fun j y hj => absurd hj (Nat.not_lt_zero j)⟩
    | true =>
      have e : firstC (x :: r) k = firstC r (k + 1) := by
        conv => lhs; unfold firstC
        rw [if_pos ho]
      rcases firstC_spec r (k + 1) with ⟨h1, h2⟩ | ⟨i, y, h1, h2, h3, h4⟩
      · refine .inl ⟨by rw [e, h1], fun j y hy => ?_⟩
        cases j with
        | zero => simp at hy; subst hy; exact ho
        | succ j => exact h2 j y (by simpa using hy)
      · refine .inr ⟨i + 1, y, by rw [e, h1, show k + 1 + i = k + (i + 1) from by omega], by simpa using h2, h3, fun j z hj hz => ?_⟩
        cases j with
        | zero => simp at hz; subst hz; exact ho
        | succ j => exact h4 j z (by omega) (by simpa using hz)
def opnR (T : List Slt.Pl) : (Int × Int) × Int := match firstC T 0 with | some q => (((q.1 : Int), q.2.given), 0) | none => ((0, 0), 7)
def opnT (T : List Slt.Pl) (v : Int) : List Slt.Pl := match firstC T 0 with | some q => T.set q.1 ⟨q.2.given + 1, v, true⟩ | none => T
def atT (T : List Slt.Pl) (n : Int) : (Int × Int) × Int := match (if 0 ≤ n then T[n.toNat]? else none) with | some x => if x.opn = true then ((n, x.given - 1), 0) else ((0, 0), 9) | none => ((0, 0), 9)
structure TbOk (N : Nat) (T : List Slt.Pl) : Prop where
  len : T.length = 128
  bd : ∀ x ∈ T, 0 ≤ x.given ∧ x.given ≤ N
theorem TbOk.fine {N : Nat} {T : List Slt.Pl} (h : TbOk N T) (hN : N ≤ 1000000) : Slt.Fine T := ⟨fun e => by (have := h.len; rw [e] at this; cases this), by rw [h.len]; exact Nat.le_refl _, fun x hx => by have := h.bd x hx; omega⟩
theorem TbOk.mono {N M : Nat} {T : List Slt.Pl} (h : TbOk N T) (hm : N ≤ M) : TbOk M T := ⟨h.len, fun x hx => by have := h.bd x hx; omega⟩
theorem TbOk.set {N : Nat} {T : List Slt.Pl} (h : TbOk N T) (i : Nat) (y : Slt.Pl) (hy : 0 ≤ y.given ∧ y.given ≤ N) : TbOk N (T.set i y) := ⟨by rw [List.length_set, h.len], fun x hx => by
  rcases List.mem_or_eq_of_mem_set hx with h1 | rfl
  · exact h.bd x h1
  · exact hy⟩
theorem TbOk.opn {N : Nat} {T : List Slt.Pl} (h : TbOk N T) (v : Int) : TbOk (N + 1) (opnT T v) := by
  unfold opnT
  rcases firstC_spec T 0 with ⟨h1, _⟩ | ⟨i, x, h1, h2, _, _⟩
  · rw [h1]; exact h.mono (Nat.le_succ N)
  · rw [h1]
    have := h.bd x (List.mem_of_getElem? h2)
    exact (h.mono (Nat.le_succ N)).set _ _ ⟨by dsimp only; omega, by dsimp only; omega⟩
theorem TbOk.cls {N : Nat} {T : List Slt.Pl} (h : TbOk N T) (n g : Int) : TbOk N (clsT T n g) := by
  unfold clsT
  cases hq : tbAt T n g with
  | none => exact h
  | some q => exact h.set _ _ (h.bd q.2 (List.mem_of_getElem? (tbAt_some hq).2.1))
theorem TbOk.new : TbOk 0 (Slt.freshT 128) := ⟨List.length_replicate, fun x hx => by rw [(List.mem_replicate.1 hx).2]; decide⟩
theorem getT_ok {N : Nat} {T : List Slt.Pl} (h : TbOk N T) {n g : Int} (hg : (getT T n g).2 = 0) : 0 ≤ n ∧ n < 128 ∧ ∃ i x, tbAt T n g = some (i, x) := by
  unfold getT at hg
  cases hq : tbAt T n g with
  | none => rw [hq] at hg; cases hg
  | some q =>
    obtain ⟨h1, h2, _, _⟩ := tbAt_some hq
    have := (List.getElem?_eq_some_iff.1 h2).1
    have := h.len
    exact ⟨by omega, by omega, q.1, q.2, rfl⟩
structure TbM where
  p : Nat
  pb : Nat
  c : Nat
  tl : List Value
def TBH (m : TbM) (T : List Slt.Pl) : Heap := Slt.tabH m.p m.pb m.c m.tl T
def DLH (now : Nat) (d : DM) : Heap := dlH now d
def PKH (l : PkM) : Heap := pkH l
/-- The place of a spot. -/
def plS (a : Sp) : Nat := 2 * a.1.toNat + a.2.toNat
theorem vld_nat {a : Sp} (h : vldS a) : ∃ x y : Nat, x < 128 ∧ y < 2 ∧ a = ((x : Int), (y : Int)) ∧ plS a = 2 * x + y := by
  obtain ⟨n, d⟩ := a
  obtain ⟨h1, h2, h3⟩ := h
  dsimp only at *
  refine ⟨n.toNat, d.toNat, by omega, by omega, ?_, rfl⟩
  rw [show ((n.toNat : Nat) : Int) = n by omega, show ((d.toNat : Nat) : Int) = d by omega]
/-! ### The poller -/
def markR (R l : List Int) (why : Int) : List Int := l.foldl (fun R t => R.set t.toNat why) R
theorem markR_len (why : Int) : ∀ (l R : List Int), (markR R l why).length = R.length
  | [], R => rfl
  | t :: l, R => by
    unfold markR; rw [List.foldl_cons]
    exact (markR_len why l _).trans (List.length_set ..)
structure PoS where
  T : List Slt.Pl
  f : Nat → Nat
  now : Nat
  s : PS
  R : List Int
structure PoM where
  p : Nat
  tb : TbM
  d : DM
  l : PkM
  rb : Nat
  rc : Nat
  rtl : List Value
abbrev poE (n : Nat) (m : PoM) : Ent := ⟨some m.p, cl [ptrH m.tb.p, ptrH m.d.p, ptrQ m.l.p, .slice (some ⟨m.rb, 0, none⟩) n m.rc] 92⟩
abbrev poH (z : PoS) (m : PoM) : Heap := poE z.R.length m :: ⟨some m.rb, cl (ivs z.R ++ m.rtl) 45⟩ :: (TBH m.tb z.T ++ (DLH z.now m.d ++ PKH m.l))
structure PoIs (N : Nat) (z : PoS) (m : PoM) : Prop where
  tb : TbOk N z.T
  di : DIs z.f z.now m.d
  dn : m.d.m.g.n ≤ N
  pk : PkIs N z.s m.l
  rl : z.R.length = z.s.sm.length
  pos : 1 ≤ z.s.sm.length
  own : Own (some m.rb) z.R.length m.rc 1 (ivs z.R) m.rtl
theorem PoIs.mono {N M : Nat} {z : PoS} {m : PoM} (h : PoIs N z m) (hm : N ≤ M) : PoIs M z m := ⟨h.tb.mono hm, h.di, Nat.le_trans h.dn hm, h.pk.mono hm, h.rl, h.pos, h.own⟩
/-- The error of a name in a direction. -/
def PoS.spE (z : PoS) (n g dir : Int) : Int := if dir = 0 ∨ dir = 1 then (getT z.T n g).2 else 2
def PoS.spA (n dir : Int) : Sp := if dir = 0 ∨ dir = 1 then (n, dir) else (0, 0)
def PoS.all (z : PoS) (a : Sp) (why : Int) : PoS := { z with s := z.s.wakeAll a, R := markR z.R (z.s.waiting a) why }
def PoS.openE (z : PoS) (v : Int) : PoS := { z with T := opnT z.T v }
def PoS.cls (z : PoS) (n g : Int) : PoS := { z with T := clsT z.T n g, f := clrF z.f n.toNat 2 }
/-- Close, with the tasks that it wakes. -/
def PoS.closeL (z : PoS) (n g : Int) : List Int := if (getT z.T n g).2 = 0 then (z.cls n g).s.waiting (n, 0) ++ ((z.cls n g).all (n, 0) 3).s.waiting (n, 1) else []
def PoS.close (z : PoS) (n g : Int) : PoS := if (getT z.T n g).2 = 0 then ((z.cls n g).all (n, 0) 3).all (n, 1) 3 else z
def PoS.dead (z : PoS) (n g dir : Int) (k : Nat) : PoS := if z.spE n g dir = 0 then (if k ≤ z.now then { z with f := updF z.f (plS (n, dir)) k }.all (n, dir) 2 else { z with f := updF z.f (plS (n, dir)) k }) else z
def PoS.deadL (z : PoS) (n g dir : Int) (k : Nat) : List Int := if z.spE n g dir = 0 then (if k ≤ z.now then z.s.waiting (n, dir) else []) else []
def PoS.chk (z : PoS) (n g dir : Int) : Int := if z.spE n g dir = 0 then (if z.f (plS (n, dir)) ≤ z.now then 12 else 0) else z.spE n g dir
def PoS.waitE (z : PoS) (i n g dir : Int) : Int := if (stR z.s.sm i).2 ≠ 0 then (stR z.s.sm i).2 else if z.spE n g dir ≠ 0 then z.spE n g dir else if (stR z.s.sm i).1 ≠ 1 then 8 else z.chk n g dir
def PoS.wait (z : PoS) (i n g dir : Int) : PoS := if z.waitE i n g dir = 0 then { z with s := z.s.park i (n, dir) } else z
def PoS.sigR (z : PoS) (n g dir : Int) : Int × Int := if z.spE n g dir = 0 then z.s.wakeR (n, dir) else (0, z.spE n g dir)
def PoS.sig (z : PoS) (n g dir : Int) : PoS := if (z.sigR n g dir).2 = 0 then { z with s := z.s.wake (n, dir), R := z.R.set (z.sigR n g dir).1.toNat 1 } else z
def PoS.start (z : PoS) (i : Int) : PoS := if (stepR z.s.sm z.s.qm 0 1 i).1 = 0 then { z with s := z.s.step 0 1 i, R := z.R.set i.toNat 0 } else z
def PoS.fin (z : PoS) (i : Int) : PoS := { z with s := z.s.step 1 0 i }
def PoS.turn (z : PoS) (i : Int) : PoS := { z with s := z.s.step 1 1 i }
def PoS.rsn (z : PoS) (i : Int) : Int × Int := if (stR z.s.sm i).2 ≠ 0 then (0, (stR z.s.sm i).2) else if (stR z.s.sm i).1 ≠ 1 then (0, 8) else (z.R.getD i.toNat 0, 0)
def PoS.whr (z : PoS) (i : Int) : ((Int × Int) × Int) × Int := if (z.s.whr i).2 ≠ 0 then (((0, 0), 0), (z.s.whr i).2) else (((atT z.T (z.s.whr i).1.1).1, (z.s.whr i).1.2), (atT z.T (z.s.whr i).1.1).2)
/-- The laps that are passed, one after the other. -/
def PoS.laps (z : PoS) : List Lp → PoS × List Int
  | [] => (z, [])
  | x :: l => (((z.all (x.fd, x.dir) 2).laps l).1, z.s.waiting (x.fd, x.dir) ++ ((z.all (x.fd, x.dir) 2).laps l).2)
end Go.Proofs.YtbkdebnkoidicaaGreat
end
section
set_option linter.unusedVariables false
set_option maxRecDepth 20000
namespace Go.Proofs.YtbkdebnkoidicaaGreat
theorem s_new : Spec Tryz.prog 40 [.int .i64 128] [] (fun r H' => ∃ m : TbM, r = .tuple #[ptrH m.p, .int .i64 0] ∧ H' = TBH m (Slt.freshT 128)) :=
  (Slt.new_ok 128 (by decide) (by decide)).mono fun r H' ⟨p, pb, h1, h2⟩ => ⟨⟨p, pb, 128, []⟩, h1, h2⟩
section
variable {N : Nat} {T : List Slt.Pl}
theorem s_open (m : TbM) (hT : TbOk N T) (hN : N ≤ 900000) (v : Int) : Spec Tryz.prog 42 [ptrH m.p, .int .i64 v] (TBH m T) (fun r H' => r = .tuple #[.agg #[.int .i64 (opnR T).1.1, .int .i64 (opnR T).1.2], .int .i64 (opnR T).2] ∧ H' = TBH m (opnT T v)) := by
  rcases firstC_spec T 0 with ⟨h1, h2⟩ | ⟨i, x, h1, h2, h3, h4⟩
  · have e1 : opnR T = ((0, 0), 7) := by unfold opnR; rw [h1]
    have e2 : opnT T v = T := by unfold opnT; rw [h1]
    rw [e1, e2]
    exact Slt.open_full m.p m.pb m.c m.tl T (hT.fine (by omega)) v h2
  · rw [Nat.zero_add] at h1
    have e1 : opnR T = (((i : Int), x.given), 0) := by unfold opnR; rw [h1]
    have e2 : opnT T v = T.set i ⟨x.given + 1, v, true⟩ := by unfold opnT; rw [h1]
    rw [e1, e2]
    exact Slt.open_at m.p m.pb m.c m.tl T (hT.fine (by omega)) v i x h2 h3 h4
theorem s_close (m : TbM) (hT : TbOk N T) (hN : N ≤ 900000) (n g : Int) : Spec Tryz.prog 43 [ptrH m.p, .agg #[.int .i64 n, .int .i64 g]] (TBH m T) (fun r H' => r = .tuple #[.int .i64 (getT T n g).1, .int .i64 (getT T n g).2] ∧ H' = TBH m (clsT T n g)) := by
  cases hq : tbAt T n g with
  | none =>
    have e1 : getT T n g = (0, 9) := by unfold getT; rw [hq]
    have e2 : clsT T n g = T := by unfold clsT; rw [hq]
    rw [e1, e2]
    exact Slt.close_no m.p m.pb m.c m.tl T (hT.fine (by omega)) n g (tbAt_none hq)
  | some q =>
    have e1 : getT T n g = (q.2.value, 0) := by unfold getT; rw [hq]
    have e2 : clsT T n g = T.set q.1 { q.2 with opn := false } := by unfold clsT; rw [hq]
    rw [e1, e2]
    exact Slt.close_yes m.p m.pb m.c m.tl T (hT.fine (by omega)) n g q.1 q.2 (tbAt_some hq)
theorem s_get (m : TbM) (hT : TbOk N T) (hN : N ≤ 900000) (n g : Int) : Spec Tryz.prog 77 [ptrH m.p, .agg #[.int .i64 n, .int .i64 g]] (TBH m T) (fun r H' => r = .tuple #[.int .i64 (getT T n g).1, .int .i64 (getT T n g).2] ∧ H' = TBH m T) := by
  cases hq : tbAt T n g with
  | none =>
    have e1 : getT T n g = (0, 9) := by unfold getT; rw [hq]
    rw [e1]
    exact Slt.get_no m.p m.pb m.c m.tl T (hT.fine (by omega)) n g (tbAt_none hq)
  | some q =>
    have e1 : getT T n g = (q.2.value, 0) := by unfold getT; rw [hq]
    rw [e1]
    exact Slt.get_yes m.p m.pb m.c m.tl T (hT.fine (by omega)) n g q.1 q.2 (tbAt_some hq)
theorem s_at (m : TbM) (hT : TbOk N T) (hN : N ≤ 900000) (n : Int) : Spec Tryz.prog 53 [ptrH m.p, .int .i64 n] (TBH m T) (fun r H' => r = .tuple #[.agg #[.int .i64 (atT T n).1.1, .int .i64 (atT T n).1.2], .int .i64 (atT T n).2] ∧ H' = TBH m T) := by
  by_cases h0 : ∃ (i : Nat) (x : Slt.Pl), n = (i : Int) ∧ T[i]? = some x ∧ x.opn = true
  · obtain ⟨i, x, rfl, hx, ho⟩ := h0
    have e1 : atT T (i : Int) = (((i : Int), x.given - 1), 0) := by
      unfold atT
      rw [if_pos (by omega), Int.toNat_natCast, hx]
      dsimp only
      rw [if_pos ho]
    rw [e1]
    exact Slt.at_yes m.p m.pb m.c m.tl T (hT.fine (by omega)) i x hx ho
  · have hno : ∀ (i : Nat) (x : Slt.Pl), n = (i : Int) → T[i]? = some x → x.opn = false := fun i x h1 h2 => by
      cases ho : x.opn with
      | false => rfl
      | true => exact absurd ⟨i, x, h1, h2, ho⟩ h0
    have e1 : atT T n = ((0, 0), 9) := by
      unfold atT
      by_cases hn : 0 ≤ n
      · rw [if_pos hn]
        cases hx : T[n.toNat]? with
        | none => rfl
        | some x =>
          dsimp only
          rw [hno n.toNat x (by omega) hx]; rfl
      · rw [if_neg hn]
    rw [e1]
    exact Slt.at_no m.p m.pb m.c m.tl T (hT.fine (by omega)) n hno
end
theorem d_new (now : Nat) (h : now < 18446744073709551615) : Spec Tryz.prog 39 [.int .u64 (now : Int)] [] (fun r H' => ∃ d : DM, r = .tuple #[ptrH d.p, .int .i64 0] ∧ H' = DLH now d ∧ d.m.g.n = 0 ∧ DIs (fun _ => 18446744073709551615) now d) := dnew_ok now h
theorem d_set {f : Nat → Nat} {now : Nat} (d : DM) (hd : DIs f now d) (a : Sp) (ha : vldS a) (k : Nat) (hk : k ≤ 18446744073709551615) (hb : d.m.g.n + 1 < 9000000000000000000) : Spec Tryz.prog 49 [ptrH d.p, ekS a, .int .u64 (k : Int)] (DLH now d)
    (fun r H' => ∃ d' : DM, r = .tuple #[.bool (decide (k ≤ now)), .int .i64 0] ∧ H' = DLH now d' ∧ d'.p = d.p ∧ d'.m.g.n ≤ d.m.g.n + 1 ∧ DIs (updF f (plS a) k) now d') := by
  obtain ⟨x, y, h1, h2, rfl, e⟩ := vld_nat ha
  rw [e]
  exact dset_ok d hd x y h1 h2 k hk hb
theorem d_pass {f : Nat → Nat} {now : Nat} (d : DM) (hd : DIs f now d) (a : Sp) (ha : vldS a) : Spec Tryz.prog 54 [ptrH d.p, ekS a] (DLH now d) (fun r H' => r = .tuple #[.bool (decide (f (plS a) ≤ now)), .int .i64 0] ∧ H' = DLH now d) := by
  obtain ⟨x, y, h1, h2, rfl, e⟩ := vld_nat ha
  rw [e]
  exact dpass_ok d hd x y h1 h2
theorem d_clear {f : Nat → Nat} {now : Nat} (d : DM) (hd : DIs f now d) (n : Int) (h1 : 0 ≤ n) (h2 : n < 128) (hb : d.m.g.n + 2 < 9000000000000000000) : Spec Tryz.prog 44 [ptrH d.p, .int .i64 n] (DLH now d) (fun r H' => ∃ d' : DM, r = .int .i64 0 ∧ H' = DLH now d' ∧ d'.p = d.p ∧ d'.m.g.n ≤ d.m.g.n + 2 ∧ DIs (clrF f n.toNat 2) now d') := by
  have e : n = ((n.toNat : Nat) : Int) := by omega
  have := dclear_ok d hd n.toNat (by omega) hb
  rw [← e] at this
  exact this
def advE11 (now to : Nat) : Int := if to = 18446744073709551615 then 2 else if to < now then 3 else 0
def advN11 (now to : Nat) : Nat := if advE11 now to = 0 then to else now
def LapR11 (f : Nat → Nat) (now to : Nat) (l : List Lp) : Prop := if advE11 now to = 0 then IsLap f now to l else l = []
theorem LapR11.one {f : Nat → Nat} {now to : Nat} {A B : List Lp} (ha : LapR11 f now to A) (hb : LapR11 f now to B) : A = B := by
  unfold LapR11 at *
  split at ha
  · rename_i h; rw [if_pos h] at hb; exact ha.one hb
  · rename_i h; rw [if_neg h] at hb; rw [ha, hb]
theorem d_adv {f : Nat → Nat} {now : Nat} (d : DM) (hd : DIs f now d) (to : Nat) (hto : to ≤ 18446744073709551615) : Spec Tryz.prog 50 [ptrH d.p, .int .u64 (to : Int)] (DLH now d)
    (fun r H' => ∃ (l : List Lp) (ob : Option Nat) (c : Nat) (tl : List Value) (d' : DM), r = .tuple #[slV ob l.length c, .int .i64 (advE11 now to)] ∧ Own ob l.length c 3 (l.flatMap encLp) tl ∧ LapR11 f now to l ∧ l.length ≤ 1024 ∧ H' = ⟨ob, cl (l.flatMap encLp ++ tl) 117⟩ :: DLH (advN11 now to) d' ∧ d'.p = d.p ∧ d'.m.g.n = d.m.g.n ∧ DIs f (advN11 now to) d') := by
  by_cases h1 : to = 18446744073709551615
  · have e : advE11 now to = 2 := by unfold advE11; rw [if_pos h1]
    have e2 : advN11 now to = now := by unfold advN11; rw [e, if_neg (by decide)]
    have e3 : LapR11 f now to [] := by unfold LapR11; rw [e, if_neg (by decide)]
    rw [e, e2]
    subst h1
    refine (Spec.none 117 ((dadv_never d hd).mono fun r H' ⟨q1, q2⟩ => ⟨⟨none, cl [] 117⟩, ⟨rfl, rfl⟩, ?_⟩))
    exact ⟨[], none, 0, [], d, q1, Own.empty 3, e3, Nat.zero_le _, by rw [q2]; rfl, rfl, rfl, hd⟩
  · by_cases h2 : to < now
    · have e : advE11 now to = 3 := by unfold advE11; rw [if_neg h1, if_pos h2]
      have e2 : advN11 now to = now := by unfold advN11; rw [e, if_neg (by decide)]
      have e3 : LapR11 f now to [] := by unfold LapR11; rw [e, if_neg (by decide)]
      rw [e, e2]
      refine (Spec.none 117 ((dadv_past d hd to h2).mono fun r H' ⟨q1, q2⟩ => ⟨⟨none, cl [] 117⟩, ⟨rfl, rfl⟩, ?_⟩))
      exact ⟨[], none, 0, [], d, q1, Own.empty 3, e3, Nat.zero_le _, by rw [q2]; rfl, rfl, rfl, hd⟩
    · have e : advE11 now to = 0 := by unfold advE11; rw [if_neg h1, if_neg h2]
      have e2 : advN11 now to = to := by unfold advN11; rw [e, if_pos rfl]
      rw [e, e2]
      refine (dadv_ok d hd to (by omega) (by omega)).mono fun r H' ⟨l, ob, c, tl, d', q1, q2, q3, q4, q5, q6, q7, q8⟩ => ⟨l, ob, c, tl, d', q1, q2, ?_, q4, q5, q6, q7, q8⟩
      unfold LapR11; rw [e, if_pos rfl]; exact q3
section
variable {N : Nat} {s : PS} (l : PkM) (hl : PkIs N s l)
include hl
theorem p_state (i : Int) : Spec Tryz.prog 58 [ptrQ l.p, .int .i64 i] (PKH l) (fun r H' => r = .tuple #[.int .i64 (stR s.sm i).1, .int .i64 (stR s.sm i).2] ∧ H' = PKH l) := pk_state N s l hl i
theorem p_ready : Spec Tryz.prog 51 [ptrQ l.p] (PKH l) (fun r H' => ∃ ob c' tl', r = slV ob s.qm.length c' ∧ Own ob s.qm.length c' 1 (ivs s.qm) tl' ∧ H' = ⟨ob, cl (ivs s.qm ++ tl') 3⟩ :: PKH l) := pk_ready N s l hl
theorem p_start (hN : N < 890000) (i : Int) : Spec Tryz.prog 46 [ptrQ l.p, .int .i64 i] (PKH l) (fun r H' => ∃ l' : PkM, r = .int .i64 (stepR s.sm s.qm 0 1 i).1 ∧ H' = PKH l' ∧ l'.p = l.p ∧ PkIs (N + 1) (s.step 0 1 i) l') := pk_start N s l hl (by omega) i
theorem p_where (i : Int) : Spec Tryz.prog 52 [ptrQ l.p, .int .i64 i] (PKH l) (fun r H' => r = .tuple #[ekS (s.whr i).1, .int .i64 (s.whr i).2] ∧ H' = PKH l) := pk_where N s l hl i
theorem p_park (hN : N < 890000) (i : Int) (a : Sp) : Spec Tryz.prog 48 [ptrQ l.p, .int .i64 i, ekS a] (PKH l) (fun r H' => ∃ l' : PkM, r = .int .i64 (s.parkE i a) ∧ H' = PKH l' ∧ l'.p = l.p ∧ PkIs (N + 1) (s.park i a) l') := pk_park N s l hl (by omega) i a
theorem p_wake (hN : N < 890000) (a : Sp) : Spec Tryz.prog 55 [ptrQ l.p, ekS a] (PKH l) (fun r H' => ∃ l' : PkM, r = .tuple #[.int .i64 (s.wakeR a).1, .int .i64 (s.wakeR a).2] ∧ H' = PKH l' ∧ l'.p = l.p ∧ PkIs (N + 1) (s.wake a) l') := pk_wake N s l hl (by omega) a
theorem p_wakeall (hN : N < 890000) (a : Sp) : Spec Tryz.prog 90 [ptrQ l.p, ekS a] (PKH l) (fun r H' => ∃ (l' : PkM) (ob : Option Nat) (c' : Nat) (tl' : List Value), r = .tuple #[slV ob (s.waiting a).length c', .int .i64 (spE a)] ∧ Own ob (s.waiting a).length c' 1 (ivs (s.waiting a)) tl' ∧ H' = ⟨ob, cl (ivs (s.waiting a) ++ tl') 3⟩ :: PKH l' ∧ l'.p = l.p ∧ PkIs (N + (s.waiting a).length) (s.wakeAll a) l') := pk_wakeall0 N s l hl (by omega) a
end
theorem p_new (m : Nat) (h1 : 1 ≤ m) (h2 : m ≤ 64) : Spec Tryz.prog 38 [.int .i64 (m : Int)] [] (fun r H' => ∃ l : PkM, r = .tuple #[ptrQ l.p, .int .i64 0] ∧ H' = PKH l ∧ PkIs 0 ⟨List.replicate m 0, [], []⟩ l) := pnew_ok m h1 h2
end Go.Proofs.YtbkdebnkoidicaaGreat
end
section
set_option linter.unusedVariables false
set_option maxRecDepth 20000
set_option maxHeartbeats 2000000
namespace Go.Proofs.YtbkdebnkoidicaaGreat
theorem po_zero (k : Nat) (m : PoM) : Spec Tryz.prog 41 [ptrH m.p] [poE k m] (fun x H' => x = .bool false ∧ H' = [poE k m]) := by
  refine Spec.of (E := [(0, ptrH m.p)]) Tryz.func41 rfl (by kernel_rfl) Tryz.ntmps41 rfl rfl (fun w => ?_)
  refine WC_seq ?_
  refine WC_region ?_
  refine WL_val rfl rfl rfl (R_assign rfl rfl) ?_
  refine WL_nil ?_
  refine WQ_code ?_
  refine WC_seq ?_
  refine WC_region ?_
  refine WL_val rfl rfl rfl (R_move rfl rfl) ?_
  refine WL_val rfl rfl rfl (R_ptrEqNil rfl Tryz.underlying23 rfl) ?_
  refine WL_val rfl rfl rfl (R_move rfl rfl) ?_
  refine WL_val rfl rfl rfl (R_move rfl rfl) ?_
  refine WL_val rfl rfl rfl (R_nilCheck rfl rfl) ?_
  refine WL_val rfl rfl rfl (R_fieldAddr rfl fa92_2 rfl) ?_
  refine WL_val rfl rfl rfl (R_load rfl sc89 rfl (mmC) rfl) ?_
  refine WL_val rfl rfl rfl (R_ptrEqNil rfl Tryz.underlying89 rfl) ?_
  refine WL_val rfl rfl rfl (R_pickF rfl rfl rfl) ?_
  refine WL_val rfl rfl rfl (R_assign rfl rfl) ?_
  refine WL_nil ?_
  refine WQ_code ?_
  refine WC_ret ?_
  refine WQ_ret rfl rfl (.cons (.tmp rfl) .nil) rfl (by
      exact ⟨rfl, rfl⟩) (pqC)
theorem spA_ok {n dir : Int} (h : dir = 0 ∨ dir = 1) : PoS.spA n dir = (n, dir) := if_pos h
theorem spA_no {n dir : Int} (h : ¬ (dir = 0 ∨ dir = 1)) : PoS.spA n dir = (0, 0) := if_neg h
theorem spE_ok (z : PoS) {n g dir : Int} (h : dir = 0 ∨ dir = 1) : z.spE n g dir = (getT z.T n g).2 := if_pos h
theorem spE_no (z : PoS) {n g dir : Int} (h : ¬ (dir = 0 ∨ dir = 1)) : z.spE n g dir = 2 := if_neg h
theorem spE_vld {N : Nat} {z : PoS} {m : PoM} (h : PoIs N z m) {n g dir : Int} (h0 : z.spE n g dir = 0) : vldS (n, dir) ∧ PoS.spA n dir = (n, dir) := by
  by_cases hd : dir = 0 ∨ dir = 1
  · rw [spE_ok z hd] at h0
    obtain ⟨h1, h2, _⟩ := getT_ok h.tb h0
    exact ⟨⟨h1, h2, hd⟩, spA_ok hd⟩
  · rw [spE_no z hd] at h0; cases h0
theorem wait_lt {N : Nat} {s : PS} {l : PkM} (h : PkIs N s l) {a : Sp} {v : Int} (hv : v ∈ s.waiting a) : ∃ j : Nat, v = (j : Int) ∧ j < s.sm.length := by
  unfold PS.waiting at hv
  split at hv
  · obtain ⟨w, hw, _, rfl⟩ := wAt_mem.1 hv
    exact ⟨w.i, rfl, (List.getElem?_eq_some_iff.1 ((h.ps.prk w.i).2 ⟨w, hw, rfl⟩)).1⟩
  · cases hv
theorem wakeAll_sm {s : PS} (h : PsOk s) (a : Sp) : (s.wakeAll a).sm.length = s.sm.length := by
  unfold PS.wakeAll PS.waiting
  split
  · have := (wakes_ok h a (wAt s.W a).length (Nat.le_refl _)).2.2
    rwa [List.take_length] at this
  · rfl
theorem wk_take {l : List Int} {k : Nat} {v : Int} (h : l[k]? = some v) : l.take (k + 1) = l.take k ++ [v] := take_get h
theorem markR_next {R l : List Int} {k : Nat} {v why : Int} (h : l[k]? = some v) : markR R (l.take (k + 1)) why = (markR R (l.take k) why).set v.toNat why := by
  rw [wk_take h]; unfold markR; rw [List.foldl_append]; rfl
theorem own_sm {o : Option Nat} {c : Nat} {xs ys : List Int} {tl : List Value} (h : Own o xs.length c 1 (ivs xs) tl) (e : ys.length = xs.length) : Own o ys.length c 1 (ivs ys) tl := by
  rw [e]; exact h.like (by rw [fm_length encI1, fm_length encI1, e])
theorem po_spot {N : Nat} {z : PoS} (m : PoM) (h : PoIs N z m) (hN : N ≤ 800000) (n g dir : Int) : Spec Tryz.prog 47 [ptrH m.p, .agg #[.int .i64 n, .int .i64 g], .int .i64 dir] (poH z m) (fun x H' => x = .tuple #[ekS (PoS.spA n dir), .int .i64 (z.spE n g dir)] ∧ H' = poH z m) := by
  refine Spec.of (E := [(0, ptrH m.p), (1, .agg #[.int .i64 n, .int .i64 g]), (2, .int .i64 dir)]) Tryz.func47 rfl (by kernel_rfl) Tryz.ntmps47 rfl rfl (fun w => ?_)
  refine WC_seq ?_
  refine WC_region ?_
  refine WL_do rfl rfl rfl (D_box (cs := [_, _]) rfl rfl rfl) ?_
  rintro _ _ ⟨b1, rfl, rfl⟩
  refine WL_do rfl rfl rfl (D_alloc rfl zv108) ?_
  rintro _ _ ⟨b2, rfl, rfl⟩
  refine WL_val rfl rfl rfl (R_assign rfl rfl) ?_
  refine WL_nil ?_
  refine WQ_code ?_
  refine WC_seq ?_
  refine WC_block ?_
  refine WC_seq ?_
  refine WC_region ?_
  refine WL_val rfl rfl rfl (R_move rfl rfl) ?_
  refine WL_do rfl rfl rfl (D_call (po_zero z.R.length m) rfl rfl rfl rfl (pqC)) ?_
  rintro _ _ ⟨_, ⟨rfl, rfl⟩, rfl⟩
  refine WL_val rfl rfl rfl (R_assign rfl rfl) ?_
  refine WL_nil ?_
  refine WQ_code ?_
  refine WC_F rfl ?_
  refine WC_seq ?_
  refine WC_region ?_
  refine WL_val rfl rfl rfl (R_move rfl rfl) ?_
  refine WL_val rfl rfl rfl (R_neq rfl rfl rfl) ?_
  refine WL_val rfl rfl rfl (R_move rfl rfl) ?_
  refine WL_splitD (s := 17) rfl (fun c1 => ?_) (fun c1 => ?_)
  · refine WL_val rfl rfl rfl (R_move rfl rfl) ?_
    refine WL_val rfl rfl rfl (R_neq rfl rfl rfl) ?_
    refine WL_val rfl rfl rfl (R_pickT rfl rfl rfl) ?_
    refine WL_val rfl rfl rfl (R_assign rfl rfl) ?_
    refine WL_nil ?_
    refine WQ_code ?_
    refine WC_dec rfl (fun c2 => ?_) (fun c2 => ?_)
    · refine WC_seq ?_
      refine WC_region ?_
      refine WL_val rfl rfl rfl (R_build rfl zv108 pl108 rfl rfl) ?_
      refine WL_do0 rfl rfl (D_store (vs := [_, _]) rfl Tryz.sizeOf108 rfl rfl rfl rfl rfl (plC) (by exact Nat.le_of_ble_eq_true rfl)) ?_
      rintro _ _ rfl
      refine WL_val rfl rfl rfl (R_assign rfl rfl) ?_
      refine WL_nil ?_
      refine WQ_code ?_
      refine WC_ret ?_
      refine WQ_ret rfl rfl (.cons (.cell (vs := [_, _]) rfl ag108 (mmC) rfl (atZ)) (.cons (.tmp rfl) .nil)) rfl (by
          first | exact ⟨by rw [spA_no (by omega), spE_no z (by omega)]; rfl, rfl⟩ | exact ⟨by rw [spA_ok (by omega), spE_ok z (by omega)]; rfl, rfl⟩) (pqC)
    · refine WC_skip ?_
      refine WQ_code ?_
      refine WC_seq ?_
      refine WC_draw _ [(0, true), (1, true), (2, true), (3, true), (4, true), (5, true), (6, true), (7, true), (8, true), (9, true), (10, true)] followsMixed rfl rfl (by kernel_rfl) .all ?_
      refine WM_val rfl rfl rfl rfl (R_move rfl rfl) ?_
      refine WM_val rfl rfl rfl rfl (R_nilCheck rfl rfl) ?_
      refine WM_val rfl rfl rfl rfl (R_fieldAddr rfl fa92_0 rfl) ?_
      refine WM_val rfl rfl rfl rfl (R_load rfl sc87 rfl (mmC) rfl) ?_
      refine WM_val rfl rfl rfl rfl (R_loadA (vs := [_, _]) rfl ag30 rfl (mmC) rfl (atZ)) ?_
      refine WM_call rfl (Spec.quiet (s_get m.tb h.tb (by omega) n g)) rfl rfl rfl rfl rfl rfl rfl (pqC) ?_
      refine WM_val rfl rfl rfl rfl (R_move rfl rfl) ?_
      refine WM_val rfl rfl rfl rfl (R_extract rfl rfl rfl) ?_
      refine WM_val rfl rfl rfl rfl (R_extract rfl rfl rfl) ?_
      refine WM_val rfl rfl rfl rfl (R_assign rfl rfl) ?_
      refine WM_val rfl rfl rfl rfl (R_assign rfl rfl) ?_
      refine WM_nil ?_
      refine WQ_code ?_
      refine WC_seq ?_
      refine WC_region ?_
      refine WL_val rfl rfl rfl (R_fieldAddr rfl fa30_0 rfl) ?_
      refine WL_val rfl rfl rfl (R_load rfl sc3 rfl (mmC) rfl) ?_
      refine WL_val rfl rfl rfl (R_move rfl rfl) ?_
      refine WL_val rfl rfl rfl (R_build rfl zv108 pl108 rfl rfl) ?_
      refine WL_val rfl rfl rfl (R_move rfl rfl) ?_
      refine WL_do0 rfl rfl (D_store (vs := [_, _]) rfl Tryz.sizeOf108 rfl rfl rfl rfl rfl (plC) (by exact Nat.le_of_ble_eq_true rfl)) ?_
      rintro _ _ rfl
      refine WL_val rfl rfl rfl (R_assign rfl rfl) ?_
      refine WL_nil ?_
      refine WQ_code ?_
      refine WC_ret ?_
      refine WQ_ret rfl rfl (.cons (.cell (vs := [_, _]) rfl ag108 (mmC) rfl (atZ)) (.cons (.tmp rfl) .nil)) rfl (by
          first | exact ⟨by rw [spA_no (by omega), spE_no z (by omega)]; rfl, rfl⟩ | exact ⟨by rw [spA_ok (by omega), spE_ok z (by omega)]; rfl, rfl⟩) (pqC)
  · refine WL_skip rfl rfl rfl ?_
    refine WL_skip rfl rfl rfl ?_
    refine WL_val rfl rfl rfl (R_pickF rfl rfl rfl) ?_
    refine WL_val rfl rfl rfl (R_assign rfl rfl) ?_
    refine WL_nil ?_
    refine WQ_code ?_
    refine WC_F rfl ?_
    refine WC_skip ?_
    refine WQ_code ?_
    refine WC_seq ?_
    refine WC_draw _ [(0, true), (1, true), (2, true), (3, true), (4, true), (5, true), (6, true), (7, true), (8, true), (9, true), (10, true)] followsMixed rfl rfl (by kernel_rfl) .all ?_
    refine WM_val rfl rfl rfl rfl (R_move rfl rfl) ?_
    refine WM_val rfl rfl rfl rfl (R_nilCheck rfl rfl) ?_
    refine WM_val rfl rfl rfl rfl (R_fieldAddr rfl fa92_0 rfl) ?_
    refine WM_val rfl rfl rfl rfl (R_load rfl sc87 rfl (mmC) rfl) ?_
    refine WM_val rfl rfl rfl rfl (R_loadA (vs := [_, _]) rfl ag30 rfl (mmC) rfl (atZ)) ?_
    refine WM_call rfl (Spec.quiet (s_get m.tb h.tb (by omega) n g)) rfl rfl rfl rfl rfl rfl rfl (pqC) ?_
    refine WM_val rfl rfl rfl rfl (R_move rfl rfl) ?_
    refine WM_val rfl rfl rfl rfl (R_extract rfl rfl rfl) ?_
    refine WM_val rfl rfl rfl rfl (R_extract rfl rfl rfl) ?_
    refine WM_val rfl rfl rfl rfl (R_assign rfl rfl) ?_
    refine WM_val rfl rfl rfl rfl (R_assign rfl rfl) ?_
    refine WM_nil ?_
    refine WQ_code ?_
    refine WC_seq ?_
    refine WC_region ?_
    refine WL_val rfl rfl rfl (R_fieldAddr rfl fa30_0 rfl) ?_
    refine WL_val rfl rfl rfl (R_load rfl sc3 rfl (mmC) rfl) ?_
    refine WL_val rfl rfl rfl (R_move rfl rfl) ?_
    refine WL_val rfl rfl rfl (R_build rfl zv108 pl108 rfl rfl) ?_
    refine WL_val rfl rfl rfl (R_move rfl rfl) ?_
    refine WL_do0 rfl rfl (D_store (vs := [_, _]) rfl Tryz.sizeOf108 rfl rfl rfl rfl rfl (plC) (by exact Nat.le_of_ble_eq_true rfl)) ?_
    rintro _ _ rfl
    refine WL_val rfl rfl rfl (R_assign rfl rfl) ?_
    refine WL_nil ?_
    refine WQ_code ?_
    refine WC_ret ?_
    refine WQ_ret rfl rfl (.cons (.cell (vs := [_, _]) rfl ag108 (mmC) rfl (atZ)) (.cons (.tmp rfl) .nil)) rfl (by
        first | exact ⟨by rw [spA_no (by omega), spE_no z (by omega)]; rfl, rfl⟩ | exact ⟨by rw [spA_ok (by omega), spE_ok z (by omega)]; rfl, rfl⟩) (pqC)
structure MkW where
  k : Nat
  L : List Int
theorem po_all {N : Nat} {z : PoS} (m : PoM) (h : PoIs N z m) (hN : N ≤ 800000) (a : Sp) (why : Int) : Spec Tryz.prog 45 [ptrH m.p, ekS a, .int .i64 why] (poH z m)
    (fun x H' => ∃ (m' : PoM) (ob : Option Nat) (c : Nat) (tl : List Value), x = slV ob (z.s.waiting a).length c ∧ Own ob (z.s.waiting a).length c 1 (ivs (z.s.waiting a)) tl ∧ H' = ⟨ob, cl (ivs (z.s.waiting a) ++ tl) 3⟩ :: poH (z.all a why) m' ∧ m'.p = m.p ∧ PoIs (N + (z.s.waiting a).length) (z.all a why) m') := by
  have hwl := waiting_len h.pk.ps a
  refine Spec.of (E := [(0, ptrH m.p), (1, ekS a), (2, .int .i64 why)]) Tryz.func45 rfl (by kernel_rfl) Tryz.ntmps45 rfl rfl (fun w => ?_)
  refine WC_seq ?_
  refine WC_region ?_
  refine WL_do rfl rfl rfl (D_box (cs := [_, _]) rfl rfl rfl) ?_
  rintro _ _ ⟨b1, rfl, rfl⟩
  refine WL_val rfl rfl rfl (R_assign rfl rfl) ?_
  refine WL_nil ?_
  refine WQ_code ?_
  refine WC_seq ?_
  refine WC_draw ([⟨some b1, _⟩, ⟨some m.p, _⟩]) [(0, true), (1, true), (2, true), (3, true), (4, true), (5, false), (6, true), (7, true), (8, true), (9, true), (10, true)] followsMixed rfl rfl (by kernel_rfl) pqC ?_
  refine WM_val rfl rfl rfl rfl (R_move rfl rfl) ?_
  refine WM_val rfl rfl rfl rfl (R_nilCheck rfl rfl) ?_
  refine WM_val rfl rfl rfl rfl (R_fieldAddr rfl fa92_2 rfl) ?_
  refine WM_val rfl rfl rfl rfl (R_load rfl sc89 rfl (mmC) rfl) ?_
  refine WM_val rfl rfl rfl rfl (R_loadA (vs := [_, _]) rfl ag108 rfl (mmC) rfl (atZ)) ?_
  refine WM_do rfl rfl rfl rfl (D_call (p_wakeall m.l h.pk (by omega) a) rfl rfl rfl rfl (pqC)) ?_
  rintro _ _ ⟨_, ⟨l', ob, c', tl', rfl, own', rfl, hlp, hl'⟩, rfl⟩
  refine ⟨⟨_, pqC⟩, ?_⟩
  simp only [poE]
  rw [← hlp]
  refine WM_val rfl rfl rfl rfl (R_move rfl rfl) ?_
  refine WM_val rfl rfl rfl rfl (R_extract rfl rfl rfl) ?_
  refine WM_val rfl rfl rfl rfl (R_extract rfl rfl rfl) ?_
  refine WM_val rfl rfl rfl rfl (R_assign rfl rfl) ?_
  refine WM_val rfl rfl rfl rfl (R_assign rfl rfl) ?_
  refine WM_nil ?_
  refine WQ_code ?_
  refine WC_seq ?_
  refine WC_seq ?_
  refine WC_region ?_
  refine WL_val rfl rfl rfl (R_move rfl rfl) ?_
  refine WL_val rfl rfl rfl (R_len rfl Tryz.underlying34 rfl) ?_
  refine WL_val rfl rfl rfl (R_move rfl rfl) ?_
  refine WL_nil ?_
  refine WQ_code ?_
  refine WC_block ?_
  refine WC_loopF (G := MkW) [10, 22, 23, 24, 25, 26, 27, 28, 29, 30, 31, 32, 33] (fun y => y.k ≤ (z.s.waiting a).length ∧ y.L = markR z.R ((z.s.waiting a).take y.k) why) (fun y => [(22, .int .i64 (y.k : Int))]) (fun y => [⟨some m.rb, cl (ivs y.L ++ m.rtl) 45⟩]) (fun y => (z.s.waiting a).length - y.k) (⟨0, z.R⟩) (⟨Nat.zero_le _, by rw [List.take_zero]; rfl⟩) leZ (pqC) ?_
  rintro y ⟨hyk, hyL⟩
  refine WC_seq ?_
  refine WC_region ?_
  refine WL_val rfl rfl rfl (R_lss rfl rfl rfl) ?_
  refine WL_nil ?_
  refine WQ_code ?_
  refine WC_seq ?_
  refine WC_dec rfl (fun c1 => ?_) (fun c1 => ?_)
  · refine WC_skip ?_
    refine WQ_code ?_
    refine WC_seq ?_
    refine WC_block ?_
    refine WC_seq ?_
    refine WC_region ?_
    obtain ⟨v, hx⟩ := exE (T := z.s.waiting a) (i := y.k) (by omega)
    obtain ⟨j, rfl, hj⟩ := wait_lt h.pk (List.mem_of_getElem? hx)
    obtain ⟨wb, hwb⟩ := own'.some_of (by omega)
    rw [hwb]
    have hml : y.L.length = z.R.length := by rw [hyL]; exact markR_len _ _ _
    have hrl := h.rl
    obtain ⟨u9, hu9⟩ := exE (T := y.L) (i := j) (by omega)
    refine WL_val rfl rfl rfl (R_indexAddrN rfl Tryz.underlying34 Tryz.sizeOf3 rfl rfl (by omega)) ?_
    refine WL_val rfl rfl rfl (R_load (v := .int .i64 (j : Int)) rfl sc3 rfl (mmC) (fm_get0 encI1 hx (j := 0) (by omega))) ?_
    refine WL_val rfl rfl rfl (R_assign rfl rfl) ?_
    refine WL_nil ?_
    refine WQ_code ?_
    refine WC_region ?_
    refine WL_val rfl rfl rfl (R_move rfl rfl) ?_
    refine WL_val rfl rfl rfl (R_nilCheck rfl rfl) ?_
    refine WL_val rfl rfl rfl (R_fieldAddr rfl fa92_3 rfl) ?_
    refine WL_val rfl rfl rfl (R_load rfl sc90 rfl (mmC) rfl) ?_
    refine WL_val rfl rfl rfl (R_move rfl rfl) ?_
    refine WL_val rfl rfl rfl (R_move rfl rfl) ?_
    refine WL_val rfl rfl rfl (R_indexAddrN rfl Tryz.underlying90 Tryz.sizeOf45 rfl rfl (by rw [h.rl]; exact hj)) ?_
    refine WL_do0 rfl rfl (D_store (vs := [_]) rfl Tryz.sizeOf45 rfl rfl rfl rfl rfl (plC) (by exact fm_room0 encI1 (show j < y.L.length by omega) (j := 0) (by omega))) ?_
    rintro _ _ rfl
    have hput : putAt (ivs y.L ++ m.rtl) (0 + j * 1) [.int .i64 why] = ivs (y.L.set j why) ++ m.rtl := fm_put0 encI1 why hu9 (j := 0) (vs := [.int .i64 why]) (by simp) rfl (tl := m.rtl)
    rw [hput]
    refine WL_nil ?_
    refine WQ_code ?_
    refine WC_region ?_
    refine WL_val rfl rfl rfl (R_add rfl rfl rfl (by omega)) ?_
    refine WL_val rfl rfl rfl (R_move rfl rfl) ?_
    refine WL_nil ?_
    refine WQ_nextF (gg := y) (⟨y.k + 1, y.L.set j why⟩) (⟨by dsimp only; omega, by dsimp only; rw [markR_next hx, Int.toNat_natCast, hyL]⟩) (by dsimp only; omega) leZ (psZ) rfl (pqC)
  · have hyl : y.k = (z.s.waiting a).length := by omega
    have hfin : y.L = markR z.R (z.s.waiting a) why := by rw [hyL, hyl, List.take_length]
    have hml := markR_len why (z.s.waiting a) z.R
    rw [hfin, ← hml]
    refine WC_exit ?_
    refine WQ_code ?_
    refine WC_seq ?_
    refine WC_region ?_
    refine WL_val rfl rfl rfl (R_move rfl rfl) ?_
    refine WL_val rfl rfl rfl (R_assign rfl rfl) ?_
    refine WL_nil ?_
    refine WQ_code ?_
    refine WC_ret ?_
    refine WQ_ret rfl rfl (.cons (.tmp rfl) .nil) rfl (by
        exact ⟨{ m with l := l' }, ob, c', tl', rfl, own', rfl, rfl, ⟨h.tb.mono (by omega), h.di, Nat.le_trans h.dn (by omega), hl', (markR_len _ _ _).trans (h.rl.trans (wakeAll_sm h.pk.ps a).symm), by (show 1 ≤ (z.s.wakeAll a).sm.length); rw [wakeAll_sm h.pk.ps a]; exact h.pos, own_sm h.own (markR_len _ _ _)⟩⟩) (pqC)
end Go.Proofs.YtbkdebnkoidicaaGreat
end
section
set_option linter.unusedVariables false
set_option maxRecDepth 20000
namespace Go.Proofs.YtbkdebnkoidicaaGreat
theorem PoIs.T_ {N M : Nat} {z : PoS} {m : PoM} (h : PoIs N z m) (hm : N ≤ M) {T' : List Slt.Pl} (ht : TbOk M T') : PoIs M { z with T := T' } m := ⟨ht, h.di, Nat.le_trans h.dn hm, h.pk.mono hm, h.rl, h.pos, h.own⟩
theorem PoIs.lot {N M : Nat} {z : PoS} {m : PoM} (h : PoIs N z m) (hm : N ≤ M) {s' : PS} {l' : PkM} (hl : PkIs M s' l') (hs : s'.sm.length = z.s.sm.length) : PoIs M { z with s := s' } { m with l := l' } := ⟨h.tb.mono hm, h.di, Nat.le_trans h.dn hm, hl, h.rl.trans hs.symm, by rw [hs]; exact h.pos, h.own⟩
theorem PoIs.lotR {N M : Nat} {z : PoS} {m : PoM} (h : PoIs N z m) (hm : N ≤ M) {s' : PS} {l' : PkM} (hl : PkIs M s' l') (hs : s'.sm.length = z.s.sm.length) (j : Nat) (v : Int) : PoIs M { z with s := s', R := z.R.set j v } { m with l := l' } := ⟨h.tb.mono hm, h.di, Nat.le_trans h.dn hm, hl, (List.length_set ..).trans (h.rl.trans hs.symm), by rw [hs]; exact h.pos, own_sm h.own (List.length_set ..)⟩
theorem PoIs.ends {N M : Nat} {z : PoS} {m : PoM} (h : PoIs N z m) (hm : N ≤ M) {f' : Nat → Nat} {now' : Nat} {d' : DM} (hd : DIs f' now' d') (hn : d'.m.g.n ≤ M) : PoIs M { z with f := f', now := now' } { m with d := d' } := ⟨h.tb.mono hm, hd, hn, h.pk.mono hm, h.rl, h.pos, h.own⟩
theorem stepR_no {sm qm : List Int} {fr to i : Int} (h : (stepR sm qm fr to i).1 ≠ 0) : (stepR sm qm fr to i).2 = (sm, qm) := by
  unfold stepR at *
  split at h
  · rename_i e; rw [if_pos e]
  · rename_i e
    rw [if_neg e]
    split at h
    · exact absurd rfl h
    · rename_i e2; rw [if_neg e2]
theorem step_no {s : PS} {fr to i : Int} (h : (stepR s.sm s.qm fr to i).1 ≠ 0) : s.step fr to i = s := by
  unfold PS.step
  rw [stepR_no h]
theorem step_sm (s : PS) (fr to i : Int) : (s.step fr to i).sm.length = s.sm.length := stepR_len _ _ _ _ _
theorem park_sm (s : PS) (i : Int) (a : Sp) : (s.park i a).sm.length = s.sm.length := by
  unfold PS.park; split
  · exact stepR_len _ _ _ _ _
  · rfl
theorem wake_sm (s : PS) (a : Sp) : (s.wake a).sm.length = s.sm.length := by
  unfold PS.wake; split
  · exact stepR_len _ _ _ _ _
  · rfl
theorem stepR_zero {sm qm : List Int} {fr to i : Int} (h : (stepR sm qm fr to i).1 = 0) : ∃ j : Nat, i = (j : Int) ∧ j < sm.length := by
  by_cases hr : i < 0 ∨ (sm.length : Int) ≤ i
  · rw [stepR_out hr] at h; cases h
  · exact ⟨i.toNat, by omega, by omega⟩
theorem stR_lt {sm : List Int} {i : Int} (h : (stR sm i).2 = 0) : ∃ j : Nat, i = (j : Int) ∧ j < sm.length := by
  obtain ⟨j, x, e, hx, _⟩ := stR_some h
  exact ⟨j, e, (List.getElem?_eq_some_iff.1 hx).1⟩
theorem wakeR_lt {N : Nat} {s : PS} {l : PkM} (h : PkIs N s l) {a : Sp} (h0 : (s.wakeR a).2 = 0) : ∃ j : Nat, (s.wakeR a).1 = (j : Int) ∧ j < s.sm.length := by
  by_cases hv : vldS a
  · cases hw : wAt s.W a with
    | nil => rw [wakeR_none s hv hw] at h0; cases h0
    | cons v r =>
      have e : s.wakeR a = (v, 0) := wakeR_some s hv (by rw [hw]; rfl)
      have hvm : v ∈ s.waiting a := by unfold PS.waiting; rw [if_pos hv, hw]; exact List.mem_cons_self ..
      rw [e]; exact wait_lt h hvm
  · rw [wakeR_bad s hv] at h0; cases h0
theorem wOut_lt {W : List Wt} {z : Wt} (hz : z ∈ W) : (wOut W z.i).length + 1 ≤ W.length := by
  refine Nat.lt_of_le_of_ne (List.length_filter_le _ _) fun e => ?_
  have := List.length_filter_eq_length_iff.1 e z hz
  exact of_decide_eq_true this rfl
theorem wakes_W {s : PS} (h : PsOk s) (a : Sp) : (s.wakeAll a).W.length + (s.waiting a).length ≤ s.W.length := by
  unfold PS.wakeAll PS.waiting
  split
  · have key : ∀ k, k ≤ (wAt s.W a).length → (((wAt s.W a).take k).foldl PS.out s).W.length + k ≤ s.W.length := fun k => by
      induction k with
      | zero => intro _; exact Nat.le_refl _
      | succ k ih =>
        intro hk
        have h1 := ih (by omega)
        obtain ⟨q1, q2, _⟩ := wakes_ok h a k (by omega)
        obtain ⟨v, hv⟩ := exE (T := wAt s.W a) (i := k) (by omega)
        have hm : v ∈ wAt (((wAt s.W a).take k).foldl PS.out s).W a := by rw [q2]; exact List.mem_of_getElem? (i := 0) (by rw [List.getElem?_drop]; exact hv)
        obtain ⟨w, hw, _, rfl⟩ := wAt_mem.1 hm
        rw [take_get hv, List.foldl_append, List.foldl_cons, List.foldl_nil]
        have h2 : (PS.out (((wAt s.W a).take k).foldl PS.out s) w.i).W.length + 1 ≤ (((wAt s.W a).take k).foldl PS.out s).W.length := wOut_lt hw
        omega
    have := key _ (Nat.le_refl _)
    rwa [List.take_length] at this
  · simp
theorem laps_snoc (x : Lp) : ∀ (l : List Lp) (z : PoS), z.laps (l ++ [x]) = ((z.laps l).1.all (x.fd, x.dir) 2, (z.laps l).2 ++ (z.laps l).1.s.waiting (x.fd, x.dir))
  | [], z => by simp [PoS.laps]
  | y :: l, z => by
    rw [List.cons_append]
    unfold PoS.laps
    rw [laps_snoc x l]
    simp [List.append_assoc]
def PoS.advS (z : PoS) (to : Nat) : PoS := { z with now := advN11 z.now to }
structure AdW where
  k : Nat
  z : PoS
  m : PoM
  n : Nat
  o : List Int
  ob : Option Nat
  c : Nat
  tl : List Value
theorem ivs_app (A B : List Int) : ivs A ++ ivs B = ivs (A ++ B) := by simp [ivs]
theorem ivs_1 (l : List Int) : (ivs l).all Value.oneCell' = true := fm_all (fun _ => rfl) l
def newS (tasks now : Nat) : PoS := ⟨Slt.freshT 128, fun _ => 18446744073709551615, now, ⟨List.replicate tasks 0, [], []⟩, List.replicate tasks 0⟩
end Go.Proofs.YtbkdebnkoidicaaGreat
end
section
set_option linter.unusedVariables false
set_option maxRecDepth 20000
set_option maxHeartbeats 4000000
namespace Go.Proofs.YtbkdebnkoidicaaGreat
theorem po_open {N : Nat} {z : PoS} (m : PoM) (h : PoIs N z m) (hN : N ≤ 800000) (v : Int) : Spec Tryz.prog 10 [ptrH m.p, .int .i64 v] (poH z m) (fun x H' => x = .tuple #[.agg #[.int .i64 (opnR z.T).1.1, .int .i64 (opnR z.T).1.2], .int .i64 (opnR z.T).2] ∧ H' = poH (z.openE v) m ∧ PoIs (N + 1) (z.openE v) m) := by
  refine Spec.of (E := [(0, ptrH m.p), (1, .int .i64 v)]) Tryz.func10 rfl (by kernel_rfl) Tryz.ntmps10 rfl rfl (fun w => ?_)
  refine WC_seq ?_
  refine WC_region ?_
  refine WL_do rfl rfl rfl (D_alloc rfl zv30) ?_
  rintro _ _ ⟨b1, rfl, rfl⟩
  refine WL_val rfl rfl rfl (R_assign rfl rfl) ?_
  refine WL_nil ?_
  refine WQ_code ?_
  refine WC_seq ?_
  refine WC_seq ?_
  refine WC_region ?_
  refine WL_val rfl rfl rfl (R_move rfl rfl) ?_
  refine WL_do rfl rfl rfl (D_call (po_zero z.R.length m) rfl rfl rfl rfl (pqC)) ?_
  rintro _ _ ⟨_, ⟨rfl, rfl⟩, rfl⟩
  refine WL_nil ?_
  refine WQ_code ?_
  refine WC_F rfl ?_
  refine WC_skip ?_
  refine WQ_code ?_
  refine WC_seq ?_
  refine WC_region ?_
  refine WL_val rfl rfl rfl (R_move rfl rfl) ?_
  refine WL_val rfl rfl rfl (R_nilCheck rfl rfl) ?_
  refine WL_val rfl rfl rfl (R_fieldAddr rfl fa92_0 rfl) ?_
  refine WL_val rfl rfl rfl (R_load rfl sc87 rfl (mmC) rfl) ?_
  refine WL_val rfl rfl rfl (R_move rfl rfl) ?_
  refine WL_do rfl rfl rfl (D_call (s_open m.tb h.tb (by omega) v) rfl rfl rfl rfl (pqC)) ?_
  rintro _ _ ⟨_, ⟨rfl, rfl⟩, rfl⟩
  refine WL_val rfl rfl rfl (R_extract rfl rfl rfl) ?_
  refine WL_val rfl rfl rfl (R_extract rfl rfl rfl) ?_
  refine WL_do0 rfl rfl (D_store (vs := [_, _]) rfl Tryz.sizeOf30 rfl rfl rfl rfl rfl (plC) (by exact Nat.le_of_ble_eq_true rfl)) ?_
  rintro _ _ rfl
  refine WL_val rfl rfl rfl (R_assign rfl rfl) ?_
  refine WL_nil ?_
  refine WQ_code ?_
  refine WC_ret ?_
  refine WQ_ret rfl rfl (.cons (.cell (vs := [_, _]) rfl ag30 (mmC) rfl (atZ)) (.cons (.tmp rfl) .nil)) rfl (by
      exact ⟨rfl, rfl, h.T_ (Nat.le_succ N) (h.tb.opn v)⟩) (pqC)
theorem po_state {N : Nat} {z : PoS} (m : PoM) (h : PoIs N z m) (hN : N ≤ 800000) (i : Int) : Spec Tryz.prog 28 [ptrH m.p, .int .i64 i] (poH z m) (fun x H' => x = .tuple #[.int .i64 (stR z.s.sm i).1, .int .i64 (stR z.s.sm i).2] ∧ H' = poH z m) := by
  refine Spec.of (E := [(0, ptrH m.p), (1, .int .i64 i)]) Tryz.func28 rfl (by kernel_rfl) Tryz.ntmps28 rfl rfl (fun w => ?_)
  refine WC_seq ?_
  refine WC_region ?_
  refine WL_val rfl rfl rfl (R_assign rfl rfl) ?_
  refine WL_val rfl rfl rfl (R_assign rfl rfl) ?_
  refine WL_nil ?_
  refine WQ_code ?_
  refine WC_seq ?_
  refine WC_seq ?_
  refine WC_region ?_
  refine WL_val rfl rfl rfl (R_move rfl rfl) ?_
  refine WL_do rfl rfl rfl (D_call (po_zero z.R.length m) rfl rfl rfl rfl (pqC)) ?_
  rintro _ _ ⟨_, ⟨rfl, rfl⟩, rfl⟩
  refine WL_nil ?_
  refine WQ_code ?_
  refine WC_F rfl ?_
  refine WC_skip ?_
  refine WQ_code ?_
  refine WC_seq ?_
  refine WC_region ?_
  refine WL_val rfl rfl rfl (R_move rfl rfl) ?_
  refine WL_val rfl rfl rfl (R_nilCheck rfl rfl) ?_
  refine WL_val rfl rfl rfl (R_fieldAddr rfl fa92_2 rfl) ?_
  refine WL_val rfl rfl rfl (R_load rfl sc89 rfl (mmC) rfl) ?_
  refine WL_val rfl rfl rfl (R_move rfl rfl) ?_
  refine WL_do rfl rfl rfl (D_call (p_state m.l h.pk i) rfl rfl rfl rfl (pqC)) ?_
  rintro _ _ ⟨_, ⟨rfl, rfl⟩, rfl⟩
  refine WL_val rfl rfl rfl (R_extract rfl rfl rfl) ?_
  refine WL_val rfl rfl rfl (R_extract rfl rfl rfl) ?_
  refine WL_val rfl rfl rfl (R_assign rfl rfl) ?_
  refine WL_val rfl rfl rfl (R_assign rfl rfl) ?_
  refine WL_nil ?_
  refine WQ_code ?_
  refine WC_ret ?_
  refine WQ_ret rfl rfl (.cons (.tmp rfl) (.cons (.tmp rfl) .nil)) rfl (by
      exact ⟨rfl, rfl⟩) (pqC)
theorem po_chk {N : Nat} {z : PoS} (m : PoM) (h : PoIs N z m) (hN : N ≤ 800000) (n g dir : Int) : Spec Tryz.prog 23 [ptrH m.p, .agg #[.int .i64 n, .int .i64 g], .int .i64 dir] (poH z m) (fun x H' => x = .int .i64 (z.chk n g dir) ∧ H' = poH z m) := by
  by_cases he : z.spE n g dir = 0
  · obtain ⟨hv, hsp⟩ := spE_vld h he
    refine Spec.of (E := [(0, ptrH m.p), (1, .agg #[.int .i64 n, .int .i64 g]), (2, .int .i64 dir)]) Tryz.func23 rfl (by kernel_rfl) Tryz.ntmps23 rfl rfl (fun w => ?_)
    refine WC_seq ?_
    refine WC_region ?_
    refine WL_do rfl rfl rfl (D_box (cs := [_, _]) rfl rfl rfl) ?_
    rintro _ _ ⟨b1, rfl, rfl⟩
    refine WL_val rfl rfl rfl (R_assign rfl rfl) ?_
    refine WL_nil ?_
    refine WQ_code ?_
    refine WC_seq ?_
    refine WC_region ?_
    refine WL_val rfl rfl rfl (R_move rfl rfl) ?_
    refine WL_val rfl rfl rfl (R_loadA (vs := [_, _]) rfl ag30 rfl (mmC) rfl (atZ)) ?_
    refine WL_val rfl rfl rfl (R_move rfl rfl) ?_
    refine WL_do rfl rfl rfl (D_call (po_spot m h (by omega) n g dir) rfl rfl rfl rfl (pqC)) ?_
    rintro _ _ ⟨_, ⟨rfl, rfl⟩, rfl⟩
    rw [he, hsp]
    refine WL_val rfl rfl rfl (R_move rfl rfl) ?_
    refine WL_val rfl rfl rfl (R_extract rfl rfl rfl) ?_
    refine WL_val rfl rfl rfl (R_extract rfl rfl rfl) ?_
    refine WL_do rfl rfl rfl (D_alloc rfl zv108) ?_
    rintro _ _ ⟨b2, rfl, rfl⟩
    refine WL_do0 rfl rfl (D_store (vs := [_, _]) rfl Tryz.sizeOf108 rfl rfl rfl rfl rfl (plC) (by exact Nat.le_of_ble_eq_true rfl)) ?_
    rintro _ _ rfl
    refine WL_val rfl rfl rfl (R_assign rfl rfl) ?_
    refine WL_nil ?_
    refine WQ_code ?_
    refine WC_seq ?_
    refine WC_seq ?_
    refine WC_region ?_
    refine WL_val rfl rfl rfl (R_move rfl rfl) ?_
    refine WL_val rfl rfl rfl (R_neq rfl rfl rfl) ?_
    refine WL_nil ?_
    refine WQ_code ?_
    refine WC_dF rfl (by simp) ?_
    refine WC_skip ?_
    refine WQ_code ?_
    refine WC_seq ?_
    refine WC_seq ?_
    refine WC_draw _ [(0, true), (1, true), (2, true), (3, true), (4, true), (5, true), (6, true), (7, true), (8, true), (9, true), (10, true)] followsMixed rfl rfl (by kernel_rfl) .all ?_
    refine WM_val rfl rfl rfl rfl (R_move rfl rfl) ?_
    refine WM_val rfl rfl rfl rfl (R_nilCheck rfl rfl) ?_
    refine WM_val rfl rfl rfl rfl (R_fieldAddr rfl fa92_1 rfl) ?_
    refine WM_val rfl rfl rfl rfl (R_load rfl sc88 rfl (mmC) rfl) ?_
    refine WM_val rfl rfl rfl rfl (R_loadA (vs := [_, _]) rfl ag108 rfl (mmC) rfl (atZ)) ?_
    refine WM_call rfl (Spec.quiet (d_pass m.d h.di (n, dir) hv)) rfl rfl rfl rfl rfl rfl rfl (pqC) ?_
    refine WM_val rfl rfl rfl rfl (R_move rfl rfl) ?_
    refine WM_val rfl rfl rfl rfl (R_extract rfl rfl rfl) ?_
    refine WM_val rfl rfl rfl rfl (R_extract rfl rfl rfl) ?_
    refine WM_val rfl rfl rfl rfl (R_assign rfl rfl) ?_
    refine WM_val rfl rfl rfl rfl (R_assign rfl rfl) ?_
    refine WM_nil ?_
    refine WQ_code ?_
    refine WC_seq ?_
    refine WC_region ?_
    refine WL_val rfl rfl rfl (R_move rfl rfl) ?_
    refine WL_nil ?_
    refine WQ_code ?_
    refine WC_dec rfl (fun c1 => ?_) (fun c1 => ?_)
    · refine WC_seq ?_
      refine WC_region ?_
      refine WL_val rfl rfl rfl (R_assign rfl rfl) ?_
      refine WL_nil ?_
      refine WQ_code ?_
      refine WC_ret ?_
      refine WQ_ret rfl rfl (.cons (.tmp rfl) .nil) rfl (by
          exact ⟨by unfold PoS.chk; rw [if_pos he, if_pos (by assumption)]; rfl, rfl⟩) (pqC)
    · refine WC_skip ?_
      refine WQ_code ?_
      refine WC_seq ?_
      refine WC_region ?_
      refine WL_val rfl rfl rfl (R_assign rfl rfl) ?_
      refine WL_nil ?_
      refine WQ_code ?_
      refine WC_ret ?_
      refine WQ_ret rfl rfl (.cons (.tmp rfl) .nil) rfl (by
          exact ⟨by unfold PoS.chk; rw [if_pos he, if_neg (by assumption)]; rfl, rfl⟩) (pqC)
  · refine Spec.of (E := [(0, ptrH m.p), (1, .agg #[.int .i64 n, .int .i64 g]), (2, .int .i64 dir)]) Tryz.func23 rfl (by kernel_rfl) Tryz.ntmps23 rfl rfl (fun w => ?_)
    refine WC_seq ?_
    refine WC_region ?_
    refine WL_do rfl rfl rfl (D_box (cs := [_, _]) rfl rfl rfl) ?_
    rintro _ _ ⟨b1, rfl, rfl⟩
    refine WL_val rfl rfl rfl (R_assign rfl rfl) ?_
    refine WL_nil ?_
    refine WQ_code ?_
    refine WC_seq ?_
    refine WC_region ?_
    refine WL_val rfl rfl rfl (R_move rfl rfl) ?_
    refine WL_val rfl rfl rfl (R_loadA (vs := [_, _]) rfl ag30 rfl (mmC) rfl (atZ)) ?_
    refine WL_val rfl rfl rfl (R_move rfl rfl) ?_
    refine WL_do rfl rfl rfl (D_call (po_spot m h (by omega) n g dir) rfl rfl rfl rfl (pqC)) ?_
    rintro _ _ ⟨_, ⟨rfl, rfl⟩, rfl⟩
    refine WL_val rfl rfl rfl (R_move rfl rfl) ?_
    refine WL_val rfl rfl rfl (R_extract rfl rfl rfl) ?_
    refine WL_val rfl rfl rfl (R_extract rfl rfl rfl) ?_
    refine WL_do rfl rfl rfl (D_alloc rfl zv108) ?_
    rintro _ _ ⟨b2, rfl, rfl⟩
    refine WL_do0 rfl rfl (D_store (vs := [_, _]) rfl Tryz.sizeOf108 rfl rfl rfl rfl rfl (plC) (by exact Nat.le_of_ble_eq_true rfl)) ?_
    rintro _ _ rfl
    refine WL_val rfl rfl rfl (R_assign rfl rfl) ?_
    refine WL_nil ?_
    refine WQ_code ?_
    refine WC_seq ?_
    refine WC_seq ?_
    refine WC_region ?_
    refine WL_val rfl rfl rfl (R_move rfl rfl) ?_
    refine WL_val rfl rfl rfl (R_neq rfl rfl rfl) ?_
    refine WL_nil ?_
    refine WQ_code ?_
    refine WC_dT rfl (by exact he) ?_
    refine WC_seq ?_
    refine WC_region ?_
    refine WL_val rfl rfl rfl (R_move rfl rfl) ?_
    refine WL_val rfl rfl rfl (R_assign rfl rfl) ?_
    refine WL_nil ?_
    refine WQ_code ?_
    refine WC_ret ?_
    refine WQ_ret rfl rfl (.cons (.tmp rfl) .nil) rfl (by
        exact ⟨by unfold PoS.chk; rw [if_neg he]; rfl, rfl⟩) (pqC)
theorem po_start {N : Nat} {z : PoS} (m : PoM) (h : PoIs N z m) (hN : N ≤ 800000) (i : Int) : Spec Tryz.prog 15 [ptrH m.p, .int .i64 i] (poH z m) (fun x H' => ∃ m' : PoM, x = .int .i64 (stepR z.s.sm z.s.qm 0 1 i).1 ∧ H' = poH (z.start i) m' ∧ m'.p = m.p ∧ PoIs (N + 1) (z.start i) m') := by
  by_cases he : (stepR z.s.sm z.s.qm 0 1 i).1 = 0
  · have e9 : z.start i = { z with s := z.s.step 0 1 i, R := z.R.set i.toNat 0 } := if_pos he
    obtain ⟨j, rfl, hj⟩ := stepR_zero he
    rw [Int.toNat_natCast] at e9
    rw [e9]
    obtain ⟨u9, hu9⟩ := exE (T := z.R) (i := j) (by rw [h.rl]; exact hj)
    have hput : putAt (ivs z.R ++ m.rtl) (0 + j * 1) [.int .i64 0] = ivs (z.R.set j 0) ++ m.rtl := fm_put0 encI1 (0 : Int) hu9 (j := 0) (vs := [.int .i64 0]) (by simp) rfl (tl := m.rtl)
    refine Spec.of (E := [(0, ptrH m.p), (1, .int .i64 (j : Int))]) Tryz.func15 rfl (by kernel_rfl) Tryz.ntmps15 rfl rfl (fun w => ?_)
    refine WC_seq ?_
    refine WC_region ?_
    refine WL_val rfl rfl rfl (R_assign rfl rfl) ?_
    refine WL_nil ?_
    refine WQ_code ?_
    refine WC_seq ?_
    refine WC_seq ?_
    refine WC_region ?_
    refine WL_val rfl rfl rfl (R_move rfl rfl) ?_
    refine WL_do rfl rfl rfl (D_call (po_zero z.R.length m) rfl rfl rfl rfl (pqC)) ?_
    rintro _ _ ⟨_, ⟨rfl, rfl⟩, rfl⟩
    refine WL_nil ?_
    refine WQ_code ?_
    refine WC_F rfl ?_
    refine WC_skip ?_
    refine WQ_code ?_
    refine WC_seq ?_
    refine WC_region ?_
    refine WL_val rfl rfl rfl (R_move rfl rfl) ?_
    refine WL_val rfl rfl rfl (R_nilCheck rfl rfl) ?_
    refine WL_val rfl rfl rfl (R_fieldAddr rfl fa92_2 rfl) ?_
    refine WL_val rfl rfl rfl (R_load rfl sc89 rfl (mmC) rfl) ?_
    refine WL_val rfl rfl rfl (R_move rfl rfl) ?_
    refine WL_do rfl rfl rfl (D_call (p_start m.l h.pk (by omega) (j : Int)) rfl rfl rfl rfl (pqC)) ?_
    rintro _ _ ⟨_, ⟨l', rfl, rfl, hlp, hl'⟩, rfl⟩
    simp only [poE]
    rw [← hlp, he]
    refine WL_val rfl rfl rfl (R_assign rfl rfl) ?_
    refine WL_nil ?_
    refine WQ_code ?_
    refine WC_seq ?_
    refine WC_seq ?_
    refine WC_region ?_
    refine WL_val rfl rfl rfl (R_move rfl rfl) ?_
    refine WL_val rfl rfl rfl (R_eql rfl rfl rfl) ?_
    refine WL_nil ?_
    refine WQ_code ?_
    refine WC_dT rfl (by simp) ?_
    refine WC_region ?_
    refine WL_val rfl rfl rfl (R_move rfl rfl) ?_
    refine WL_val rfl rfl rfl (R_nilCheck rfl rfl) ?_
    refine WL_val rfl rfl rfl (R_fieldAddr rfl fa92_3 rfl) ?_
    refine WL_val rfl rfl rfl (R_load rfl sc90 rfl (mmC) rfl) ?_
    refine WL_val rfl rfl rfl (R_move rfl rfl) ?_
    refine WL_val rfl rfl rfl (R_indexAddrN rfl Tryz.underlying90 Tryz.sizeOf45 rfl rfl (by rw [h.rl]; exact hj)) ?_
    refine WL_do0 rfl rfl (D_store (vs := [_]) rfl Tryz.sizeOf45 rfl rfl rfl rfl rfl (plC) (by exact fm_room0 encI1 (show j < z.R.length by rw [h.rl]; exact hj) (j := 0) (by omega))) ?_
    rintro _ _ rfl
    rw [hput]
    rw [show z.R.length = (z.R.set j 0).length from (List.length_set ..).symm]
    refine WL_nil ?_
    refine WQ_code ?_
    refine WC_seq ?_
    refine WC_region ?_
    refine WL_val rfl rfl rfl (R_move rfl rfl) ?_
    refine WL_val rfl rfl rfl (R_assign rfl rfl) ?_
    refine WL_nil ?_
    refine WQ_code ?_
    refine WC_ret ?_
    refine WQ_ret rfl rfl (.cons (.tmp rfl) .nil) rfl (by
        exact ⟨{ m with l := l' }, rfl, rfl, rfl, h.lotR (Nat.le_succ N) hl' (step_sm _ _ _ _) j 0⟩) (pqC)
  · have e9 : z.start i = z := if_neg he
    rw [e9]
    refine Spec.of (E := [(0, ptrH m.p), (1, .int .i64 i)]) Tryz.func15 rfl (by kernel_rfl) Tryz.ntmps15 rfl rfl (fun w => ?_)
    refine WC_seq ?_
    refine WC_region ?_
    refine WL_val rfl rfl rfl (R_assign rfl rfl) ?_
    refine WL_nil ?_
    refine WQ_code ?_
    refine WC_seq ?_
    refine WC_seq ?_
    refine WC_region ?_
    refine WL_val rfl rfl rfl (R_move rfl rfl) ?_
    refine WL_do rfl rfl rfl (D_call (po_zero z.R.length m) rfl rfl rfl rfl (pqC)) ?_
    rintro _ _ ⟨_, ⟨rfl, rfl⟩, rfl⟩
    refine WL_nil ?_
    refine WQ_code ?_
    refine WC_F rfl ?_
    refine WC_skip ?_
    refine WQ_code ?_
    refine WC_seq ?_
    refine WC_region ?_
    refine WL_val rfl rfl rfl (R_move rfl rfl) ?_
    refine WL_val rfl rfl rfl (R_nilCheck rfl rfl) ?_
    refine WL_val rfl rfl rfl (R_fieldAddr rfl fa92_2 rfl) ?_
    refine WL_val rfl rfl rfl (R_load rfl sc89 rfl (mmC) rfl) ?_
    refine WL_val rfl rfl rfl (R_move rfl rfl) ?_
    refine WL_do rfl rfl rfl (D_call (p_start m.l h.pk (by omega) i) rfl rfl rfl rfl (pqC)) ?_
    rintro _ _ ⟨_, ⟨l', rfl, rfl, hlp, hl'⟩, rfl⟩
    simp only [poE]
    rw [← hlp]
    refine WL_val rfl rfl rfl (R_assign rfl rfl) ?_
    refine WL_nil ?_
    refine WQ_code ?_
    refine WC_seq ?_
    refine WC_seq ?_
    refine WC_region ?_
    refine WL_val rfl rfl rfl (R_move rfl rfl) ?_
    refine WL_val rfl rfl rfl (R_eql rfl rfl rfl) ?_
    refine WL_nil ?_
    refine WQ_code ?_
    refine WC_dF rfl (by exact he) ?_
    refine WC_skip ?_
    refine WQ_code ?_
    refine WC_seq ?_
    refine WC_region ?_
    refine WL_val rfl rfl rfl (R_move rfl rfl) ?_
    refine WL_val rfl rfl rfl (R_assign rfl rfl) ?_
    refine WL_nil ?_
    refine WQ_code ?_
    refine WC_ret ?_
    refine WQ_ret rfl rfl (.cons (.tmp rfl) .nil) rfl (by
        exact ⟨{ m with l := l' }, rfl, rfl, rfl, by have h7 := h.lot (Nat.le_succ N) hl' (step_sm _ _ _ _); rw [step_no he] at h7; exact h7⟩) (pqC)
theorem po_rsn {N : Nat} {z : PoS} (m : PoM) (h : PoIs N z m) (hN : N ≤ 800000) (i : Int) : Spec Tryz.prog 34 [ptrH m.p, .int .i64 i] (poH z m) (fun x H' => x = .tuple #[.int .i64 (z.rsn i).1, .int .i64 (z.rsn i).2] ∧ H' = poH z m) := by
  refine Spec.of (E := [(0, ptrH m.p), (1, .int .i64 i)]) Tryz.func34 rfl (by kernel_rfl) Tryz.ntmps34 rfl rfl (fun w => ?_)
  refine WC_seq ?_
  refine WC_region ?_
  refine WL_val rfl rfl rfl (R_assign rfl rfl) ?_
  refine WL_val rfl rfl rfl (R_assign rfl rfl) ?_
  refine WL_nil ?_
  refine WQ_code ?_
  refine WC_seq ?_
  refine WC_region ?_
  refine WL_val rfl rfl rfl (R_move rfl rfl) ?_
  refine WL_val rfl rfl rfl (R_move rfl rfl) ?_
  refine WL_do rfl rfl rfl (D_call (po_state m h (by omega) i) rfl rfl rfl rfl (pqC)) ?_
  rintro _ _ ⟨_, ⟨rfl, rfl⟩, rfl⟩
  refine WL_val rfl rfl rfl (R_move rfl rfl) ?_
  refine WL_val rfl rfl rfl (R_extract rfl rfl rfl) ?_
  refine WL_val rfl rfl rfl (R_extract rfl rfl rfl) ?_
  refine WL_val rfl rfl rfl (R_assign rfl rfl) ?_
  refine WL_val rfl rfl rfl (R_assign rfl rfl) ?_
  refine WL_nil ?_
  refine WQ_code ?_
  refine WC_seq ?_
  refine WC_block ?_
  refine WC_seq ?_
  refine WC_region ?_
  refine WL_val rfl rfl rfl (R_move rfl rfl) ?_
  refine WL_val rfl rfl rfl (R_neq rfl rfl rfl) ?_
  refine WL_val rfl rfl rfl (R_assign rfl rfl) ?_
  refine WL_nil ?_
  refine WQ_code ?_
  refine WC_dec rfl (fun c1 => ?_) (fun c1 => ?_)
  · refine WC_seq ?_
    refine WC_region ?_
    refine WL_val rfl rfl rfl (R_move rfl rfl) ?_
    refine WL_val rfl rfl rfl (R_assign rfl rfl) ?_
    refine WL_val rfl rfl rfl (R_assign rfl rfl) ?_
    refine WL_nil ?_
    refine WQ_code ?_
    refine WC_ret ?_
    refine WQ_ret rfl rfl (.cons (.tmp rfl) (.cons (.tmp rfl) .nil)) rfl (by
        exact ⟨by unfold PoS.rsn; rw [if_pos (by assumption)]; rfl, rfl⟩) (pqC)
  · refine WC_seq ?_
    refine WC_region ?_
    refine WL_val rfl rfl rfl (R_move rfl rfl) ?_
    refine WL_val rfl rfl rfl (R_neq rfl rfl rfl) ?_
    refine WL_val rfl rfl rfl (R_assign rfl rfl) ?_
    refine WL_nil ?_
    refine WQ_code ?_
    refine WC_dec rfl (fun c2 => ?_) (fun c2 => ?_)
    · refine WC_seq ?_
      refine WC_region ?_
      refine WL_val rfl rfl rfl (R_assign rfl rfl) ?_
      refine WL_val rfl rfl rfl (R_assign rfl rfl) ?_
      refine WL_nil ?_
      refine WQ_code ?_
      refine WC_ret ?_
      refine WQ_ret rfl rfl (.cons (.tmp rfl) (.cons (.tmp rfl) .nil)) rfl (by
          exact ⟨by unfold PoS.rsn; rw [if_neg (by omega), if_pos (by assumption)]; rfl, rfl⟩) (pqC)
    · refine WC_skip ?_
      refine WQ_code ?_
      refine WC_seq ?_
      refine WC_region ?_
      refine WL_val rfl rfl rfl (R_move rfl rfl) ?_
      refine WL_val rfl rfl rfl (R_nilCheck rfl rfl) ?_
      refine WL_val rfl rfl rfl (R_fieldAddr rfl fa92_3 rfl) ?_
      refine WL_val rfl rfl rfl (R_load rfl sc90 rfl (mmC) rfl) ?_
      refine WL_val rfl rfl rfl (R_move rfl rfl) ?_
      obtain ⟨j, rfl, hj⟩ := stR_lt (sm := z.s.sm) (i := i) (by omega)
      obtain ⟨u9, hu9⟩ := exE (T := z.R) (i := j) (by rw [h.rl]; exact hj)
      refine WL_val rfl rfl rfl (R_indexAddrN rfl Tryz.underlying90 Tryz.sizeOf45 rfl rfl (by rw [h.rl]; exact hj)) ?_
      refine WL_val rfl rfl rfl (R_load (v := .int .i64 u9) rfl sc45 rfl (mmC) (fm_get0 encI1 hu9 (j := 0) (by omega))) ?_
      refine WL_val rfl rfl rfl (R_assign rfl rfl) ?_
      refine WL_val rfl rfl rfl (R_assign rfl rfl) ?_
      refine WL_nil ?_
      refine WQ_code ?_
      refine WC_ret ?_
      refine WQ_ret rfl rfl (.cons (.tmp rfl) (.cons (.tmp rfl) .nil)) rfl (by
          exact ⟨by unfold PoS.rsn; rw [if_neg (by omega), if_neg (by omega), Int.toNat_natCast, List.getD_eq_getElem?_getD, hu9]; rfl, rfl⟩) (pqC)
theorem po_where {N : Nat} {z : PoS} (m : PoM) (h : PoIs N z m) (hN : N ≤ 800000) (i : Int) : Spec Tryz.prog 22 [ptrH m.p, .int .i64 i] (poH z m) (fun x H' => x = .tuple #[.agg #[.int .i64 (z.whr i).1.1.1, .int .i64 (z.whr i).1.1.2], .int .i64 (z.whr i).1.2, .int .i64 (z.whr i).2] ∧ H' = poH z m) := by
  refine Spec.of (E := [(0, ptrH m.p), (1, .int .i64 i)]) Tryz.func22 rfl (by kernel_rfl) Tryz.ntmps22 rfl rfl (fun w => ?_)
  refine WC_seq ?_
  refine WC_region ?_
  refine WL_do rfl rfl rfl (D_alloc rfl zv30) ?_
  rintro _ _ ⟨b1, rfl, rfl⟩
  refine WL_val rfl rfl rfl (R_assign rfl rfl) ?_
  refine WL_val rfl rfl rfl (R_assign rfl rfl) ?_
  refine WL_nil ?_
  refine WQ_code ?_
  refine WC_seq ?_
  refine WC_seq ?_
  refine WC_region ?_
  refine WL_val rfl rfl rfl (R_move rfl rfl) ?_
  refine WL_do rfl rfl rfl (D_call (po_zero z.R.length m) rfl rfl rfl rfl (pqC)) ?_
  rintro _ _ ⟨_, ⟨rfl, rfl⟩, rfl⟩
  refine WL_nil ?_
  refine WQ_code ?_
  refine WC_F rfl ?_
  refine WC_skip ?_
  refine WQ_code ?_
  refine WC_seq ?_
  refine WC_region ?_
  refine WL_val rfl rfl rfl (R_move rfl rfl) ?_
  refine WL_val rfl rfl rfl (R_nilCheck rfl rfl) ?_
  refine WL_val rfl rfl rfl (R_fieldAddr rfl fa92_2 rfl) ?_
  refine WL_val rfl rfl rfl (R_load rfl sc89 rfl (mmC) rfl) ?_
  refine WL_val rfl rfl rfl (R_move rfl rfl) ?_
  refine WL_do rfl rfl rfl (D_call (p_where m.l h.pk i) rfl rfl rfl rfl (pqC)) ?_
  rintro _ _ ⟨_, ⟨rfl, rfl⟩, rfl⟩
  refine WL_val rfl rfl rfl (R_move rfl rfl) ?_
  refine WL_val rfl rfl rfl (R_extract rfl rfl rfl) ?_
  refine WL_val rfl rfl rfl (R_extract rfl rfl rfl) ?_
  refine WL_do rfl rfl rfl (D_alloc rfl zv108) ?_
  rintro _ _ ⟨b2, rfl, rfl⟩
  refine WL_do0 rfl rfl (D_store (vs := [_, _]) rfl Tryz.sizeOf108 rfl rfl rfl rfl rfl (plC) (by exact Nat.le_of_ble_eq_true rfl)) ?_
  rintro _ _ rfl
  refine WL_val rfl rfl rfl (R_assign rfl rfl) ?_
  refine WL_nil ?_
  refine WQ_code ?_
  refine WC_seq ?_
  refine WC_seq ?_
  refine WC_region ?_
  refine WL_val rfl rfl rfl (R_move rfl rfl) ?_
  refine WL_val rfl rfl rfl (R_neq rfl rfl rfl) ?_
  refine WL_nil ?_
  refine WQ_code ?_
  refine WC_dec rfl (fun c1 => ?_) (fun c1 => ?_)
  · refine WC_seq ?_
    refine WC_region ?_
    refine WL_val rfl rfl rfl (R_build rfl zv30 pl30 rfl rfl) ?_
    refine WL_val rfl rfl rfl (R_move rfl rfl) ?_
    refine WL_do0 rfl rfl (D_store (vs := [_, _]) rfl Tryz.sizeOf30 rfl rfl rfl rfl rfl (plC) (by exact Nat.le_of_ble_eq_true rfl)) ?_
    rintro _ _ rfl
    refine WL_val rfl rfl rfl (R_assign rfl rfl) ?_
    refine WL_val rfl rfl rfl (R_assign rfl rfl) ?_
    refine WL_nil ?_
    refine WQ_code ?_
    refine WC_ret ?_
    refine WQ_ret rfl rfl (.cons (.cell (vs := [_, _]) rfl ag30 (mmC) rfl (atZ)) (.cons (.tmp rfl) (.cons (.tmp rfl) .nil))) rfl (by
        exact ⟨by unfold PoS.whr; rw [if_pos (by assumption)]; rfl, rfl⟩) (pqC)
  · have hz0 : ¬ (z.s.whr i).2 ≠ 0 := c1
    refine WC_skip ?_
    refine WQ_code ?_
    refine WC_seq ?_
    refine WC_drawB ([⟨some b2, _⟩, ⟨some m.p, _⟩]) [(0, .q), (1, .q), (2, .q), (3, .q), (4, .q), (5, .q), (6, .n [10]), (7, .q), (8, .q), (9, .q), (10, .b []), (11, .n []), (12, .q)] followsMixed rfl rfl (by kernel_rfl) pqC ?_
    refine WB_val rfl rfl rfl rfl (R_move rfl rfl) ?_
    refine WB_val rfl rfl rfl rfl (R_nilCheck rfl rfl) ?_
    refine WB_val rfl rfl rfl rfl (R_fieldAddr rfl fa92_0 rfl) ?_
    refine WB_val rfl rfl rfl rfl (R_load rfl sc87 rfl (mmC) rfl) ?_
    refine WB_val rfl rfl rfl rfl (R_fieldAddr rfl fa108_0 rfl) ?_
    refine WB_val rfl rfl rfl rfl (R_load rfl sc3 rfl (mmC) rfl) ?_
    refine WB_do rfl rfl rfl rfl (.cons rfl rfl (B_alloc rfl zv30) .nil) (fun _ => D_call (s_at m.tb h.tb (by omega) (z.s.whr i).1.1) rfl rfl rfl rfl (pqC)) ?_
    rintro _ _ ⟨_, ⟨rfl, rfl⟩, rfl⟩
    refine ⟨⟨_, pqC⟩, ?_⟩
    refine WB_val rfl rfl rfl rfl (R_move rfl rfl) ?_
    refine WB_val rfl rfl rfl rfl (R_extract rfl rfl rfl) ?_
    refine WB_val rfl rfl rfl rfl (R_extract rfl rfl rfl) ?_
    refine WB_birth rfl rfl rfl rfl .nil (B_alloc rfl zv30) (fun b3 => ?_)
    refine WB_do0 rfl rfl rfl .nil (fun _ => D_store (vs := [_, _]) rfl Tryz.sizeOf30 rfl rfl rfl rfl rfl (plC) (by exact Nat.le_of_ble_eq_true rfl)) ?_
    rintro _ _ rfl
    refine ⟨⟨_, pqC⟩, ?_⟩
    refine WB_val rfl rfl rfl rfl (R_assign rfl rfl) ?_
    refine WB_nil ?_
    refine WQ_code ?_
    refine WC_seq ?_
    refine WC_drawR [⟨some b1, _⟩] [(0, true), (1, true), (2, true), (3, true), (4, false), (5, true), (6, true)] followsMixed rfl rfl (by kernel_rfl) (pqC) ?_
    refine WM_val rfl rfl rfl rfl (R_loadA (vs := [_, _]) rfl ag30 rfl (mmC) rfl (atZ)) ?_
    refine WM_val rfl rfl rfl rfl (R_fieldAddr rfl fa108_1 rfl) ?_
    refine WM_val rfl rfl rfl rfl (R_load rfl sc44 rfl (mmC) rfl) ?_
    refine WM_val rfl rfl rfl rfl (R_move rfl rfl) ?_
    refine WM_do0 rfl rfl rfl (D_store (vs := [_, _]) rfl Tryz.sizeOf30 rfl rfl rfl rfl rfl (plC) (by exact Nat.le_of_ble_eq_true rfl)) ?_
    rintro _ _ rfl
    refine ⟨⟨_, pqC⟩, ?_⟩
    refine WM_val rfl rfl rfl rfl (R_assign rfl rfl) ?_
    refine WM_val rfl rfl rfl rfl (R_assign rfl rfl) ?_
    refine WM_nil ?_
    refine WQ_code ?_
    refine WC_ret ?_
    refine WQ_ret rfl rfl (.cons (.cell (vs := [_, _]) rfl ag30 (mmC) rfl (atZ)) (.cons (.tmp rfl) (.cons (.tmp rfl) .nil))) rfl (by
        exact ⟨by unfold PoS.whr; rw [if_neg hz0]; rfl, rfl⟩) (pqC)
theorem po_ready {N : Nat} {z : PoS} (m : PoM) (h : PoIs N z m) (hN : N ≤ 800000) : Spec Tryz.prog 21 [ptrH m.p] (poH z m) (fun x H' => ∃ (ob : Option Nat) (c : Nat) (tl : List Value), x = slV ob z.s.qm.length c ∧ Own ob z.s.qm.length c 1 (ivs z.s.qm) tl ∧ H' = ⟨ob, cl (ivs z.s.qm ++ tl) 3⟩ :: poH z m) := by
  refine Spec.of (E := [(0, ptrH m.p)]) Tryz.func21 rfl (by kernel_rfl) Tryz.ntmps21 rfl rfl (fun w => ?_)
  refine WC_seq ?_
  refine WC_region ?_
  refine WL_val rfl rfl rfl (R_assign rfl rfl) ?_
  refine WL_nil ?_
  refine WQ_code ?_
  refine WC_seq ?_
  refine WC_seq ?_
  refine WC_region ?_
  refine WL_val rfl rfl rfl (R_move rfl rfl) ?_
  refine WL_do rfl rfl rfl (D_call (po_zero z.R.length m) rfl rfl rfl rfl (pqC)) ?_
  rintro _ _ ⟨_, ⟨rfl, rfl⟩, rfl⟩
  refine WL_nil ?_
  refine WQ_code ?_
  refine WC_F rfl ?_
  refine WC_skip ?_
  refine WQ_code ?_
  refine WC_seq ?_
  refine WC_region ?_
  refine WL_val rfl rfl rfl (R_move rfl rfl) ?_
  refine WL_val rfl rfl rfl (R_nilCheck rfl rfl) ?_
  refine WL_val rfl rfl rfl (R_fieldAddr rfl fa92_2 rfl) ?_
  refine WL_val rfl rfl rfl (R_load rfl sc89 rfl (mmC) rfl) ?_
  refine WL_do rfl rfl rfl (D_call (p_ready m.l h.pk) rfl rfl rfl rfl (pqC)) ?_
  rintro _ _ ⟨_, ⟨ob, c', tl', rfl, own', rfl⟩, rfl⟩
  refine WL_val rfl rfl rfl (R_assign rfl rfl) ?_
  refine WL_nil ?_
  refine WQ_code ?_
  refine WC_ret ?_
  refine WQ_ret rfl rfl (.cons (.tmp rfl) .nil) rfl (by
      exact ⟨ob, c', tl', rfl, own', rfl⟩) (pqC)
end Go.Proofs.YtbkdebnkoidicaaGreat
end
