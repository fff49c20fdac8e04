/-
  Chapter 09 (park), part ParkP: contracts of functions that the laws call, each for the heap it names.
-/
import Derived.Test.YtljmeemgjbcgeaaRows
import Derived.Test.YtljmeemgjbcgeaaZSLQueue
import Derived.Test.YtljmeemgjbcgeaaTab
import Derived.Test.YtljmeemgjbcgeaaParkW
import Derived.Test.YtljmeemgjbcgeaaZSLArg
set_option linter.unusedVariables false
set_option maxRecDepth 20000
set_option maxHeartbeats 2000000
namespace Go.Proofs.Ytljmeemgjbcgeaa


theorem pk_park_no (N : Nat) (s : PS) (l : PkM) (hl : PkIs N s l) (i : Int) (a : Sp) (h : s.parkE i a ≠ 0) : Spec Try.prog 12 [ptrQ l.p, .int .i64 i, ekS a] (pkH l) (fun r H' => r = .int .i64 (s.parkE i a) ∧ H' = pkH l) := by
  refine Spec.of (E := [(0, ptrQ l.p), (1, .int .i64 i), (2, ekS a)]) Try.func12 rfl (by kernel_rfl) Try.ntmps12 rfl rfl (fun w => ?_)
  refine WC_seq ?_
  refine WC_region ?_
  refine WL_do rfl rfl rfl (D_box (cs := [_, _]) rfl rfl rfl) ?_
  rintro _ _ ⟨b1, rfl, rfl⟩
  refine WL_val rfl rfl rfl (R_assign rfl rfl) ?_
  refine WL_nil ?_
  refine WQ_code ?_
  refine WC_seq ?_
  refine WC_region ?_
  refine WL_val rfl rfl rfl (R_move rfl rfl) ?_
  refine WL_val rfl rfl rfl (R_move rfl rfl) ?_
  refine WL_do rfl rfl rfl (D_call (pk_state N s l hl i) rfl rfl rfl rfl (pqY)) ?_
  rintro _ _ ⟨_, ⟨rfl, rfl⟩, rfl⟩
  refine WL_val rfl rfl rfl (R_move rfl rfl) ?_
  refine WL_val rfl rfl rfl (R_extract rfl rfl rfl) ?_
  refine WL_val rfl rfl rfl (R_extract rfl rfl rfl) ?_
  refine WL_val rfl rfl rfl (R_assign rfl rfl) ?_
  refine WL_val rfl rfl rfl (R_assign rfl rfl) ?_
  refine WL_nil ?_
  refine WQ_code ?_
  refine WC_seq ?_
  refine WC_block ?_
  refine WC_seq ?_
  refine WC_region ?_
  refine WL_val rfl rfl rfl (R_move rfl rfl) ?_
  refine WL_val rfl rfl rfl (R_neq rfl rfl rfl) ?_
  refine WL_val rfl rfl rfl (R_assign rfl rfl) ?_
  refine WL_nil ?_
  refine WQ_code ?_
  refine WC_dec rfl (fun c1 => ?_) (fun c1 => ?_)
  · have e9 : s.parkE i a = (stR s.sm i).2 := by unfold PS.parkE; rw [if_pos c1]
    refine WC_seq ?_
    refine WC_region ?_
    refine WL_val rfl rfl rfl (R_move rfl rfl) ?_
    refine WL_val rfl rfl rfl (R_assign rfl rfl) ?_
    refine WL_nil ?_
    refine WQ_code ?_
    refine WC_ret ?_
    refine WQ_ret rfl rfl (.cons (.tmp rfl) .nil) rfl (by
        exact ⟨by rw [e9]; rfl, rfl⟩) (pqY)
  · have h0 : (stR s.sm i).2 = 0 := Decidable.not_not.1 c1
    refine WC_seq ?_
    refine WC_region ?_
    refine WL_val rfl rfl rfl (R_loadA (vs := [_, _]) rfl ag25 rfl (mmY) rfl (atZ)) ?_
    refine WL_do rfl rfl rfl (D_call (valid_ok a) rfl rfl rfl rfl (pqY)) ?_
    rintro _ _ ⟨_, ⟨rfl, rfl⟩, rfl⟩
    refine WL_val rfl rfl rfl (R_notD rfl rfl) ?_
    refine WL_val rfl rfl rfl (R_assign rfl rfl) ?_
    refine WL_nil ?_
    refine WQ_code ?_
    refine WC_dec rfl (fun c2 => ?_) (fun c2 => ?_)
    · have e9 : s.parkE i a = 2 := by unfold PS.parkE; rw [if_neg (fun e => e h0), if_neg c2]
      refine WC_seq ?_
      refine WC_region ?_
      refine WL_val rfl rfl rfl (R_assign rfl rfl) ?_
      refine WL_nil ?_
      refine WQ_code ?_
      refine WC_ret ?_
      refine WQ_ret rfl rfl (.cons (.tmp rfl) .nil) rfl (by
          exact ⟨by rw [e9]; rfl, rfl⟩) (pqY)
    · have hv9 : vldS a := Decidable.not_not.1 c2
      refine WC_seq ?_
      refine WC_region ?_
      refine WL_val rfl rfl rfl (R_move rfl rfl) ?_
      refine WL_val rfl rfl rfl (R_neq rfl rfl rfl) ?_
      refine WL_val rfl rfl rfl (R_assign rfl rfl) ?_
      refine WL_nil ?_
      refine WQ_code ?_
      refine WC_dec rfl (fun c3 => ?_) (fun c3 => ?_)
      · have e9 : s.parkE i a = 8 := by unfold PS.parkE; rw [if_neg (fun e => e h0), if_pos hv9, if_neg c3]
        refine WC_seq ?_
        refine WC_region ?_
        refine WL_val rfl rfl rfl (R_assign rfl rfl) ?_
        refine WL_nil ?_
        refine WQ_code ?_
        refine WC_ret ?_
        refine WQ_ret rfl rfl (.cons (.tmp rfl) .nil) rfl (by
            exact ⟨by rw [e9]; rfl, rfl⟩) (pqY)
      · exact absurd (by unfold PS.parkE; rw [if_neg (fun e => e h0), if_pos hv9, if_pos (Decidable.not_not.1 c3)]) h
theorem pk_park_in (N : Nat) (s : PS) (p bs mb : Nat) (t : TkM) (seats : List (Sp × Nat)) (cs : Nat) (ts : List Value) (mes : Array MapEntry) (mc : Nat) (a : Sp) (q : QM) (R : List (Sp × QM)) (hl : PkIs N s ⟨p, bs, mb, t, seats, cs, ts, mes, mc, (a, q) :: R⟩) (hN : N < 900000) (i : Nat) (hi : s.sm[i]? = some 1) (h : vldS a) : Spec Try.prog 12 [ptrQ p, .int .i64 (i : Int), ekS a] (pkH ⟨p, bs, mb, t, seats, cs, ts, mes, mc, (a, q) :: R⟩) (fun r H' => ∃ l' : PkM, r = .int .i64 0 ∧ H' = pkH l' ∧ l'.p = p ∧ PkIs (N + 1) (s.add i a) l') := by
  have hq := (hl.q (a, q) (List.mem_cons_self ..)).1
  have hln := hl.qlen (x := (a, q)) (List.mem_cons_self ..)
  have hqn := hq.n
  have htn := hl.tn
  have hsl : seats.length = s.sm.length := hl.ln
  have hil := (List.getElem?_eq_some_iff.1 hi).1
  obtain ⟨st0, hst⟩ := exE (T := seats) (i := i) (by omega)
  dsimp only at hq hln hqn htn
  refine Spec.of (E := [(0, ptrQ p), (1, .int .i64 (i : Int)), (2, ekS a)]) Try.func12 rfl (by kernel_rfl) Try.ntmps12 rfl rfl (fun w => ?_)
  refine WC_seq ?_
  refine WC_region ?_
  refine WL_do rfl rfl rfl (D_box (cs := [_, _]) rfl rfl rfl) ?_
  rintro _ _ ⟨b1, rfl, rfl⟩
  refine WL_val rfl rfl rfl (R_assign rfl rfl) ?_
  refine WL_nil ?_
  refine WQ_code ?_
  refine WC_seq ?_
  refine WC_region ?_
  refine WL_val rfl rfl rfl (R_move rfl rfl) ?_
  refine WL_val rfl rfl rfl (R_move rfl rfl) ?_
  refine WL_do rfl rfl rfl (D_call (pk_state N s ⟨p, bs, mb, t, seats, cs, ts, mes, mc, (a, q) :: R⟩ hl (i : Int)) rfl rfl rfl rfl (pqY)) ?_
  rintro _ _ ⟨_, ⟨rfl, rfl⟩, rfl⟩
  refine WL_val rfl rfl rfl (R_move rfl rfl) ?_
  refine WL_val rfl rfl rfl (R_extract rfl rfl rfl) ?_
  refine WL_val rfl rfl rfl (R_extract rfl rfl rfl) ?_
  refine WL_val rfl rfl rfl (R_assign rfl rfl) ?_
  refine WL_val rfl rfl rfl (R_assign rfl rfl) ?_
  refine WL_nil ?_
  refine WQ_code ?_
  refine WC_seq ?_
  refine WC_block ?_
  refine WC_seq ?_
  refine WC_region ?_
  refine WL_val rfl rfl rfl (R_move rfl rfl) ?_
  refine WL_val rfl rfl rfl (R_neq rfl rfl rfl) ?_
  refine WL_val rfl rfl rfl (R_assign rfl rfl) ?_
  refine WL_nil ?_
  refine WQ_code ?_
  refine WC_dF rfl (by rw [stR_in hi]; decide) ?_
  refine WC_seq ?_
  refine WC_region ?_
  refine WL_val rfl rfl rfl (R_loadA (vs := [_, _]) rfl ag25 rfl (mmY) rfl (atZ)) ?_
  refine WL_do rfl rfl rfl (D_call (valid_ok a) rfl rfl rfl rfl (pqY)) ?_
  rintro _ _ ⟨_, ⟨rfl, rfl⟩, rfl⟩
  refine WL_val rfl rfl rfl (R_notD rfl rfl) ?_
  refine WL_val rfl rfl rfl (R_assign rfl rfl) ?_
  refine WL_nil ?_
  refine WQ_code ?_
  refine WC_dF rfl (by simpa using h) ?_
  refine WC_seq ?_
  refine WC_region ?_
  refine WL_val rfl rfl rfl (R_move rfl rfl) ?_
  refine WL_val rfl rfl rfl (R_neq rfl rfl rfl) ?_
  refine WL_val rfl rfl rfl (R_assign rfl rfl) ?_
  refine WL_nil ?_
  refine WQ_code ?_
  refine WC_dF rfl (by rw [stR_in hi]; decide) ?_
  refine WC_skip ?_
  refine WQ_code ?_
  refine WC_seq ?_
  refine WC_draw _ [(0, true), (1, true), (2, true), (3, true), (4, true), (5, true), (6, true)] followsMixed rfl rfl (by kernel_rfl) .all ?_
  refine WM_val rfl rfl rfl rfl (R_move rfl rfl) ?_
  refine WM_val rfl rfl rfl rfl (R_nilCheck rfl rfl) ?_
  refine WM_val rfl rfl rfl rfl (R_fieldAddr rfl fa69_2 rfl) ?_
  refine WM_val rfl rfl rfl rfl (R_load rfl sc67 rfl (mmY) rfl) ?_
  refine WM_val rfl rfl rfl rfl (R_loadA (vs := [_, _]) rfl ag25 rfl (mmY) rfl (atZ)) ?_
  refine WM_val rfl rfl rfl rfl (R_lookK (k := a) (a := q) rfl Try.underlying67 spot_key rfl rfl (mmY) hl.mpk (List.mem_cons_self ..)) ?_
  refine WM_val rfl rfl rfl rfl (R_assign rfl rfl) ?_
  refine WM_nil ?_
  refine WQ_code ?_
  refine WC_seq ?_
  refine WC_seq ?_
  refine WC_region ?_
  refine WL_val rfl rfl rfl (R_move rfl rfl) ?_
  refine WL_val rfl rfl rfl (R_ptrEqNil rfl Try.underlying76 rfl) ?_
  refine WL_nil ?_
  refine WQ_code ?_
  refine WC_F rfl ?_
  refine WC_skip ?_
  refine WQ_code ?_
  refine WC_seq ?_
  refine WC_region ?_
  refine WL_val rfl rfl rfl (R_move rfl rfl) ?_
  refine WL_val rfl rfl rfl (R_move rfl rfl) ?_
  refine WL_do rfl rfl rfl (D_call (qpush_ok q.p q.mb q.l q.n q.es q.mc hq.qk hq.mp (by omega) (by omega) (i : Int)) rfl rfl rfl rfl (pqY)) ?_
  rintro _ _ ⟨_, ⟨es', mq', rfl, rfl, hM'⟩, rfl⟩
  refine WL_val rfl rfl rfl (R_move rfl rfl) ?_
  refine WL_val rfl rfl rfl (R_extract rfl rfl rfl) ?_
  refine WL_val rfl rfl rfl (R_extract rfl rfl rfl) ?_
  refine WL_val rfl rfl rfl (R_assign rfl rfl) ?_
  refine WL_val rfl rfl rfl (R_assign rfl rfl) ?_
  refine WL_nil ?_
  refine WQ_code ?_
  refine WC_seq ?_
  refine WC_seq ?_
  refine WC_region ?_
  refine WL_val rfl rfl rfl (R_move rfl rfl) ?_
  refine WL_val rfl rfl rfl (R_neq rfl rfl rfl) ?_
  refine WL_nil ?_
  refine WQ_code ?_
  refine WC_dF rfl (by decide) ?_
  refine WC_skip ?_
  refine WQ_code ?_
  refine WC_seq ?_
  refine WC_drawR [⟨some bs, _⟩] [(0, true), (1, true), (2, true), (3, true), (4, true), (5, true), (6, true), (7, true), (8, true), (9, false)] followsMixed rfl rfl (by kernel_rfl) (pqY) ?_
  refine WM_val rfl rfl rfl rfl (R_move rfl rfl) ?_
  refine WM_val rfl rfl rfl rfl (R_nilCheck rfl rfl) ?_
  refine WM_val rfl rfl rfl rfl (R_fieldAddr rfl fa69_1 rfl) ?_
  refine WM_val rfl rfl rfl rfl (R_load rfl sc66 rfl (mmY) rfl) ?_
  refine WM_val rfl rfl rfl rfl (R_move rfl rfl) ?_
  refine WM_val rfl rfl rfl rfl (R_loadA (vs := [_, _]) rfl ag25 rfl (mmY) rfl (atZ)) ?_
  refine WM_val rfl rfl rfl rfl (R_move rfl rfl) ?_
  refine WM_val rfl rfl rfl rfl (R_build rfl zv81 pl81 rfl rfl) ?_
  refine WM_val rfl rfl rfl rfl (R_indexAddrN rfl Try.underlying66 Try.sizeOf81 rfl rfl (by dsimp only; omega)) ?_
  refine WM_do0 rfl rfl rfl (D_store (vs := [_, _, _]) rfl Try.sizeOf81 rfl rfl rfl rfl rfl (plY) (by exact fm_room0 encSeat3 (show i < seats.length by omega) (j := 0) (by omega))) ?_
  rintro _ _ rfl
  refine ⟨⟨_, pqY⟩, ?_⟩
  have hput := fm_put0 encSeat3 ((a.1, a.2), q.n + 1) hst (j := 0) (vs := [.int .i64 a.1, .int .i64 a.2, .int .u64 ((q.n + 1 : Nat) : Int)]) (by simp) rfl (tl := ts)
  rw [Nat.add_zero] at hput
  dsimp only
  rw [hput, show seats.length = (seats.set i ((a.1, a.2), q.n + 1)).length from List.length_set.symm]
  refine WM_nil ?_
  refine WQ_code ?_
  refine WC_seq ?_
  refine WC_region ?_
  refine WL_val rfl rfl rfl (R_move rfl rfl) ?_
  refine WL_val rfl rfl rfl (R_nilCheck rfl rfl) ?_
  refine WL_val rfl rfl rfl (R_fieldAddr rfl fa69_0 rfl) ?_
  refine WL_val rfl rfl rfl (R_load rfl sc65 rfl (mmY) rfl) ?_
  refine WL_val rfl rfl rfl (R_move rfl rfl) ?_
  refine WL_do rfl rfl rfl (D_call (tk_park t s.sm s.qm hl.tk (by omega) (i : Int)) rfl rfl rfl rfl (pqY)) ?_
  rintro _ _ ⟨_, ⟨t', rfl, rfl, htp, htn', ht'⟩, rfl⟩
  rw [← htp]
  refine WL_val rfl rfl rfl (R_assign rfl rfl) ?_
  refine WL_nil ?_
  refine WQ_code ?_
  refine WC_ret ?_
  refine WQ_ret rfl rfl (.cons (.tmp rfl) .nil) rfl (by
      exact ⟨⟨p, bs, mb, t', seats.set i (a, q.n + 1), cs, ts, mes, mc, (a, ⟨q.p, q.mb, _, q.n + 1, es', mq'⟩) :: R⟩, by rw [stepR_ok hi]; rfl, rfl, rfl, hl.push rfl hi h ht' (by omega) rfl rfl rfl hM'⟩) (pqY)
theorem pk_park_out (N : Nat) (s : PS) (p bs mb : Nat) (t : TkM) (seats : List (Sp × Nat)) (cs : Nat) (ts : List Value) (mes : Array MapEntry) (mc : Nat) (a : Sp) (QL : List (Sp × QM)) (hl : PkIs N s ⟨p, bs, mb, t, seats, cs, ts, mes, mc, QL⟩) (ha : a ∉ QL.map (·.1)) (hN : N < 900000) (i : Nat) (hi : s.sm[i]? = some 1) (h : vldS a) : Spec Try.prog 12 [ptrQ p, .int .i64 (i : Int), ekS a] (pkH ⟨p, bs, mb, t, seats, cs, ts, mes, mc, QL⟩) (fun r H' => ∃ l' : PkM, r = .int .i64 0 ∧ H' = pkH l' ∧ l'.p = p ∧ PkIs (N + 1) (s.add i a) l') := by
  have htn := hl.tn
  have hsl : seats.length = s.sm.length := hl.ln
  have hil := (List.getElem?_eq_some_iff.1 hi).1
  obtain ⟨st0, hst⟩ := exE (T := seats) (i := i) (by omega)
  dsimp only at htn
  refine Spec.of (E := [(0, ptrQ p), (1, .int .i64 (i : Int)), (2, ekS a)]) Try.func12 rfl (by kernel_rfl) Try.ntmps12 rfl rfl (fun w => ?_)
  refine WC_seq ?_
  refine WC_region ?_
  refine WL_do rfl rfl rfl (D_box (cs := [_, _]) rfl rfl rfl) ?_
  rintro _ _ ⟨b1, rfl, rfl⟩
  refine WL_val rfl rfl rfl (R_assign rfl rfl) ?_
  refine WL_nil ?_
  refine WQ_code ?_
  refine WC_seq ?_
  refine WC_region ?_
  refine WL_val rfl rfl rfl (R_move rfl rfl) ?_
  refine WL_val rfl rfl rfl (R_move rfl rfl) ?_
  refine WL_do rfl rfl rfl (D_call (pk_state N s ⟨p, bs, mb, t, seats, cs, ts, mes, mc, QL⟩ hl (i : Int)) rfl rfl rfl rfl (pqY)) ?_
  rintro _ _ ⟨_, ⟨rfl, rfl⟩, rfl⟩
  refine WL_val rfl rfl rfl (R_move rfl rfl) ?_
  refine WL_val rfl rfl rfl (R_extract rfl rfl rfl) ?_
  refine WL_val rfl rfl rfl (R_extract rfl rfl rfl) ?_
  refine WL_val rfl rfl rfl (R_assign rfl rfl) ?_
  refine WL_val rfl rfl rfl (R_assign rfl rfl) ?_
  refine WL_nil ?_
  refine WQ_code ?_
  refine WC_seq ?_
  refine WC_block ?_
  refine WC_seq ?_
  refine WC_region ?_
  refine WL_val rfl rfl rfl (R_move rfl rfl) ?_
  refine WL_val rfl rfl rfl (R_neq rfl rfl rfl) ?_
  refine WL_val rfl rfl rfl (R_assign rfl rfl) ?_
  refine WL_nil ?_
  refine WQ_code ?_
  refine WC_dF rfl (by rw [stR_in hi]; decide) ?_
  refine WC_seq ?_
  refine WC_region ?_
  refine WL_val rfl rfl rfl (R_loadA (vs := [_, _]) rfl ag25 rfl (mmY) rfl (atZ)) ?_
  refine WL_do rfl rfl rfl (D_call (valid_ok a) rfl rfl rfl rfl (pqY)) ?_
  rintro _ _ ⟨_, ⟨rfl, rfl⟩, rfl⟩
  refine WL_val rfl rfl rfl (R_notD rfl rfl) ?_
  refine WL_val rfl rfl rfl (R_assign rfl rfl) ?_
  refine WL_nil ?_
  refine WQ_code ?_
  refine WC_dF rfl (by simpa using h) ?_
  refine WC_seq ?_
  refine WC_region ?_
  refine WL_val rfl rfl rfl (R_move rfl rfl) ?_
  refine WL_val rfl rfl rfl (R_neq rfl rfl rfl) ?_
  refine WL_val rfl rfl rfl (R_assign rfl rfl) ?_
  refine WL_nil ?_
  refine WQ_code ?_
  refine WC_dF rfl (by rw [stR_in hi]; decide) ?_
  refine WC_skip ?_
  refine WQ_code ?_
  refine WC_seq ?_
  refine WC_draw _ [(0, true), (1, true), (2, true), (3, true), (4, true), (5, true), (6, true)] followsMixed rfl rfl (by kernel_rfl) .all ?_
  refine WM_val rfl rfl rfl rfl (R_move rfl rfl) ?_
  refine WM_val rfl rfl rfl rfl (R_nilCheck rfl rfl) ?_
  refine WM_val rfl rfl rfl rfl (R_fieldAddr rfl fa69_2 rfl) ?_
  refine WM_val rfl rfl rfl rfl (R_load rfl sc67 rfl (mmY) rfl) ?_
  refine WM_val rfl rfl rfl rfl (R_loadA (vs := [_, _]) rfl ag25 rfl (mmY) rfl (atZ)) ?_
  refine WM_val rfl rfl rfl rfl (R_lookK0 (k := a) (zv := .pointer none) rfl Try.underlying67 spot_key rfl rfl (mmY) hl.mpk ha (fun w => Try.zeroValue76 w)) ?_
  refine WM_val rfl rfl rfl rfl (R_assign rfl rfl) ?_
  refine WM_nil ?_
  refine WQ_code ?_
  refine WC_seq ?_
  refine WC_seq ?_
  refine WC_region ?_
  refine WL_val rfl rfl rfl (R_move rfl rfl) ?_
  refine WL_val rfl rfl rfl (R_ptrEqNil rfl Try.underlying76 rfl) ?_
  refine WL_nil ?_
  refine WQ_code ?_
  refine WC_T rfl ?_
  refine WC_seq ?_
  refine WC_region ?_
  refine WL_do rfl rfl rfl (D_call (qnew_ok) rfl rfl rfl rfl (pqY)) ?_
  rintro _ _ ⟨_, ⟨pq, pm, rfl, rfl⟩, rfl⟩
  refine WL_val rfl rfl rfl (R_assign rfl rfl) ?_
  refine WL_nil ?_
  refine WQ_code ?_
  refine WC_drawR [⟨some mb, _⟩] [(0, true), (1, true), (2, true), (3, true), (4, true), (5, true), (6, false)] followsMixed rfl rfl (by kernel_rfl) (pqY) ?_
  refine WM_val rfl rfl rfl rfl (R_move rfl rfl) ?_
  refine WM_val rfl rfl rfl rfl (R_nilCheck rfl rfl) ?_
  refine WM_val rfl rfl rfl rfl (R_fieldAddr rfl fa69_2 rfl) ?_
  refine WM_val rfl rfl rfl rfl (R_load rfl sc67 rfl (mmY) rfl) ?_
  refine WM_val rfl rfl rfl rfl (R_loadA (vs := [_, _]) rfl ag25 rfl (mmY) rfl (atZ)) ?_
  refine WM_val rfl rfl rfl rfl (R_move rfl rfl) ?_
  refine WM_do0 rfl rfl rfl (D_mapAddK (k := a) (v := (⟨pq, pm, [], 0, #[], 0⟩ : QM)) rfl Try.underlying67 spot_key rfl rfl rfl (plY) hl.mpk ha) ?_
  rintro _ _ ⟨mes', hmk', rfl⟩
  refine ⟨⟨_, pqY⟩, ?_⟩
  have hl2 := hl.addkey ha pq pm hmk'
  refine WM_nil ?_
  refine WQ_code ?_
  refine WC_seq ?_
  refine WC_region ?_
  refine WL_val rfl rfl rfl (R_move rfl rfl) ?_
  refine WL_val rfl rfl rfl (R_move rfl rfl) ?_
  refine WL_do rfl rfl rfl (D_call (qpush_ok pq pm [] 0 #[] 0 (Qk.empty 0) mp_new (by decide) (by decide) (i : Int)) rfl rfl rfl rfl (pqY)) ?_
  rintro _ _ ⟨_, ⟨es', mq', rfl, rfl, hM'⟩, rfl⟩
  refine WL_val rfl rfl rfl (R_move rfl rfl) ?_
  refine WL_val rfl rfl rfl (R_extract rfl rfl rfl) ?_
  refine WL_val rfl rfl rfl (R_extract rfl rfl rfl) ?_
  refine WL_val rfl rfl rfl (R_assign rfl rfl) ?_
  refine WL_val rfl rfl rfl (R_assign rfl rfl) ?_
  refine WL_nil ?_
  refine WQ_code ?_
  refine WC_seq ?_
  refine WC_seq ?_
  refine WC_region ?_
  refine WL_val rfl rfl rfl (R_move rfl rfl) ?_
  refine WL_val rfl rfl rfl (R_neq rfl rfl rfl) ?_
  refine WL_nil ?_
  refine WQ_code ?_
  refine WC_dF rfl (by decide) ?_
  refine WC_skip ?_
  refine WQ_code ?_
  refine WC_seq ?_
  refine WC_drawR [⟨some bs, _⟩] [(0, true), (1, true), (2, true), (3, true), (4, true), (5, true), (6, true), (7, true), (8, true), (9, false)] followsMixed rfl rfl (by kernel_rfl) (pqY) ?_
  refine WM_val rfl rfl rfl rfl (R_move rfl rfl) ?_
  refine WM_val rfl rfl rfl rfl (R_nilCheck rfl rfl) ?_
  refine WM_val rfl rfl rfl rfl (R_fieldAddr rfl fa69_1 rfl) ?_
  refine WM_val rfl rfl rfl rfl (R_load rfl sc66 rfl (mmY) rfl) ?_
  refine WM_val rfl rfl rfl rfl (R_move rfl rfl) ?_
  refine WM_val rfl rfl rfl rfl (R_loadA (vs := [_, _]) rfl ag25 rfl (mmY) rfl (atZ)) ?_
  refine WM_val rfl rfl rfl rfl (R_move rfl rfl) ?_
  refine WM_val rfl rfl rfl rfl (R_build rfl zv81 pl81 rfl rfl) ?_
  refine WM_val rfl rfl rfl rfl (R_indexAddrN rfl Try.underlying66 Try.sizeOf81 rfl rfl (by dsimp only; omega)) ?_
  refine WM_do0 rfl rfl rfl (D_store (vs := [_, _, _]) rfl Try.sizeOf81 rfl rfl rfl rfl rfl (plY) (by exact fm_room0 encSeat3 (show i < seats.length by omega) (j := 0) (by omega))) ?_
  rintro _ _ rfl
  refine ⟨⟨_, pqY⟩, ?_⟩
  have hput := fm_put0 encSeat3 ((a.1, a.2), 0 + 1) hst (j := 0) (vs := [.int .i64 a.1, .int .i64 a.2, .int .u64 ((0 + 1 : Nat) : Int)]) (by simp) rfl (tl := ts)
  rw [Nat.add_zero] at hput
  dsimp only
  rw [hput, show seats.length = (seats.set i ((a.1, a.2), 0 + 1)).length from List.length_set.symm]
  refine WM_nil ?_
  refine WQ_code ?_
  refine WC_seq ?_
  refine WC_region ?_
  refine WL_val rfl rfl rfl (R_move rfl rfl) ?_
  refine WL_val rfl rfl rfl (R_nilCheck rfl rfl) ?_
  refine WL_val rfl rfl rfl (R_fieldAddr rfl fa69_0 rfl) ?_
  refine WL_val rfl rfl rfl (R_load rfl sc65 rfl (mmY) rfl) ?_
  refine WL_val rfl rfl rfl (R_move rfl rfl) ?_
  refine WL_do rfl rfl rfl (D_call (tk_park t s.sm s.qm hl.tk (by omega) (i : Int)) rfl rfl rfl rfl (pqY)) ?_
  rintro _ _ ⟨_, ⟨t', rfl, rfl, htp, htn', ht'⟩, rfl⟩
  rw [← htp]
  refine WL_val rfl rfl rfl (R_assign rfl rfl) ?_
  refine WL_nil ?_
  refine WQ_code ?_
  refine WC_ret ?_
  refine WQ_ret rfl rfl (.cons (.tmp rfl) .nil) rfl (by
      exact ⟨⟨p, bs, mb, t', seats.set i (a, 0 + 1), cs, ts, mes', mc + 1, (a, ⟨pq, pm, _, 0 + 1, es', mq'⟩) :: QL⟩, by rw [stepR_ok hi]; rfl, rfl, rfl, hl2.push rfl hi h ht' (by omega) rfl rfl rfl hM'⟩) (pqY)
theorem pk_park (N : Nat) (s : PS) (l : PkM) (hl : PkIs N s l) (hN : N < 900000) (i : Int) (a : Sp) : Spec Try.prog 12 [ptrQ l.p, .int .i64 i, ekS a] (pkH l) (fun r H' => ∃ l' : PkM, r = .int .i64 (s.parkE i a) ∧ H' = pkH l' ∧ l'.p = l.p ∧ PkIs (N + 1) (s.park i a) l') := by
  by_cases h : s.parkE i a = 0
  · have h2 := h
    unfold PS.parkE at h2
    by_cases h0 : (stR s.sm i).2 = 0
    · rw [if_neg (fun e => e h0)] at h2
      obtain ⟨j, x, rfl, hx, hst⟩ := stR_some h0
      by_cases ha : vldS a
      · rw [if_pos ha] at h2
        by_cases h1 : (stR s.sm (j : Int)).1 = 1
        · have hj : s.sm[j]? = some 1 := by rw [hx, ← hst, h1]
          obtain ⟨e1, e2⟩ := park_ok' hl.ps hj ha
          rw [e1, e2]
          rcases key_or l a with hk | ⟨q, R, hp⟩
          · exact pk_park_out N s l.p l.bs l.mb l.t l.seats l.cs l.ts l.mes l.mc a l.QL hl hk hN j hj ha
          · exact Spec.perm (pk_park_in N s l.p l.bs l.mb l.t l.seats l.cs l.ts l.mes l.mc a q R (hl.to hp) hN j hj ha) (pkH_perm l hp)
        · rw [if_neg h1] at h2; cases h2
      · rw [if_neg ha] at h2; cases h2
    · rw [if_pos h0] at h2; exact absurd h2 h0
  · rw [park_no s h]
    exact (pk_park_no N s l hl i a h).mono fun r H' ⟨e1, e2⟩ => ⟨l, e1, e2, rfl, hl.mono (Nat.le_succ N)⟩
theorem pk_out0 (N : Nat) (s : PS) (p bs mb : Nat) (t : TkM) (seats : List (Sp × Nat)) (cs : Nat) (ts : List Value) (mes : Array MapEntry) (mc : Nat) (z : Wt) (hz : z ∈ s.W) (tk : Nat) (q : QM) (R : List (Sp × QM)) (A B : List (Nat × Int)) (hl : PkIs N s ⟨p, bs, mb, t, seats, cs, ts, mes, mc, (z.at_, q) :: R⟩) (hst : seats[z.i]? = some (z.at_, tk)) (hqe : q.l = A ++ (tk, (z.i : Int)) :: B) (hN : N < 900000) : Spec Try.prog 38 [ptrQ p, .int .i64 (z.i : Int)] (pkH ⟨p, bs, mb, t, seats, cs, ts, mes, mc, (z.at_, q) :: R⟩) (fun r H' => ∃ l' : PkM, r = .tuple #[] ∧ H' = pkH l' ∧ l'.p = p ∧ PkIs (N + 1) (s.out z.i) l') := by
  have hq := (hl.q (z.at_, q) (List.mem_cons_self ..)).1
  have htn := hl.tn
  have hlt := (List.getElem?_eq_some_iff.1 hst).1
  obtain ⟨qp, qb, ql, qn, qes, qmc⟩ := q
  dsimp only at hq htn hqe
  subst hqe
  have hqk : Qk (A ++ (tk, (z.i : Int)) :: B) qn := hq.qk
  have hqm : Mp (.int .u64) ekQ evQ qes (nds 0 0 (A ++ (tk, (z.i : Int)) :: B)) := hq.mp
  refine Spec.of (E := [(0, ptrQ p), (1, .int .i64 (z.i : Int))]) Try.func38 rfl (by kernel_rfl) Try.ntmps38 rfl rfl (fun w => ?_)
  refine WC_seq ?_
  refine WC_region ?_
  refine WL_val rfl rfl rfl (R_move rfl rfl) ?_
  refine WL_val rfl rfl rfl (R_nilCheck rfl rfl) ?_
  refine WL_val rfl rfl rfl (R_fieldAddr rfl fa69_1 rfl) ?_
  refine WL_val rfl rfl rfl (R_load rfl sc66 rfl (mmY) rfl) ?_
  refine WL_val rfl rfl rfl (R_move rfl rfl) ?_
  refine WL_val rfl rfl rfl (R_indexAddrN rfl Try.underlying66 Try.sizeOf81 rfl rfl (by omega)) ?_
  refine WL_val rfl rfl rfl (R_loadA (vs := encSeat (z.at_, tk)) rfl ag81 rfl (mmY) rfl (fm_at0 encSeat3 hst (j := 0) (vs := encSeat (z.at_, tk)) (fun j v h => by rw [Nat.zero_add]; exact h) (Nat.le_refl 3))) ?_
  refine WL_do rfl rfl rfl (D_alloc rfl zv81) ?_
  rintro _ _ ⟨b1, rfl, rfl⟩
  refine WL_do0 rfl rfl (D_store (vs := [_, _, _]) rfl Try.sizeOf81 rfl rfl rfl rfl rfl (plY) (by exact Nat.le_of_ble_eq_true rfl)) ?_
  rintro _ _ rfl
  refine WL_nil ?_
  refine WQ_code ?_
  refine WC_seq ?_
  refine WC_drawR [⟨some qp, _⟩, ⟨some qb, _⟩] [(0, true), (1, true), (2, true), (3, true), (4, true), (5, true), (6, true), (7, true), (8, true), (9, false)] followsMixed rfl rfl (by kernel_rfl) (pqY) ?_
  refine WM_val rfl rfl rfl rfl (R_move rfl rfl) ?_
  refine WM_val rfl rfl rfl rfl (R_nilCheck rfl rfl) ?_
  refine WM_val rfl rfl rfl rfl (R_fieldAddr rfl fa69_2 rfl) ?_
  refine WM_val rfl rfl rfl rfl (R_load rfl sc67 rfl (mmY) rfl) ?_
  refine WM_val rfl rfl rfl rfl (R_fieldAddr rfl fa81_0 rfl) ?_
  refine WM_val rfl rfl rfl rfl (R_loadA (vs := [_, _]) rfl ag25 rfl (mmY) rfl (atZ)) ?_
  refine WM_val rfl rfl rfl rfl (R_lookK (k := z.at_) (a := (⟨qp, qb, A ++ (tk, (z.i : Int)) :: B, qn, qes, qmc⟩ : QM)) rfl Try.underlying67 spot_key rfl rfl (mmY) hl.mpk (List.mem_cons_self ..)) ?_
  refine WM_val rfl rfl rfl rfl (R_fieldAddr rfl fa81_1 rfl) ?_
  refine WM_val rfl rfl rfl rfl (R_load rfl sc22 rfl (mmY) rfl) ?_
  refine WM_do rfl rfl rfl rfl (D_call (qrem_ok qp qb A B tk (z.i : Int) qn qes qmc hqk hqm) rfl rfl rfl rfl (pqY)) ?_
  rintro _ _ ⟨_, ⟨es', mq', rfl, rfl, hM'⟩, rfl⟩
  refine ⟨⟨_, pqY⟩, ?_⟩
  refine WM_nil ?_
  refine WQ_code ?_
  refine WC_region ?_
  refine WL_val rfl rfl rfl (R_move rfl rfl) ?_
  refine WL_val rfl rfl rfl (R_nilCheck rfl rfl) ?_
  refine WL_val rfl rfl rfl (R_fieldAddr rfl fa69_0 rfl) ?_
  refine WL_val rfl rfl rfl (R_load rfl sc65 rfl (mmY) rfl) ?_
  refine WL_val rfl rfl rfl (R_move rfl rfl) ?_
  refine WL_do rfl rfl rfl (D_call (tk_wake t s.sm s.qm hl.tk (by omega) (z.i : Int)) rfl rfl rfl rfl (pqY)) ?_
  rintro _ _ ⟨_, ⟨t', rfl, rfl, htp, htn', ht'⟩, rfl⟩
  rw [← htp]
  refine WL_nil ?_
  refine WQ_ret rfl rfl .nil rfl (by
      exact ⟨⟨p, bs, mb, t', seats, cs, ts, mes, mc, (z.at_, ⟨qp, qb, A ++ B, qn, es', mq'⟩) :: R⟩, rfl, rfl, rfl, hl.pop hz rfl rfl ht' (by omega) rfl rfl rfl hM'⟩) (pqY)
theorem pk_out (N : Nat) (s : PS) (l : PkM) (hl : PkIs N s l) (hN : N < 900000) (z : Wt) (hz : z ∈ s.W) : Spec Try.prog 38 [ptrQ l.p, .int .i64 (z.i : Int)] (pkH l) (fun r H' => ∃ l' : PkM, r = .tuple #[] ∧ H' = pkH l' ∧ l'.p = l.p ∧ PkIs (N + 1) (s.out z.i) l') := by
  obtain ⟨tk, q, R, A, B, h1, hp, h2⟩ := hl.at_ hz
  exact Spec.perm (pk_out0 N s l.p l.bs l.mb l.t l.seats l.cs l.ts l.mes l.mc z hz tk q R A B (hl.to hp) h1 h2 hN) (pkH_perm l hp)

end Go.Proofs.Ytljmeemgjbcgeaa
