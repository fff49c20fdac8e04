/-
  Top (TopStacks), part MxK: contracts of functions that the laws call, each for the heap it names.
-/
import Derived.Test.YtkcfgglmlogjbaaGreatY03
import Derived.Test.YtkcfgglmlogjbaaGreatRows
import Derived.Shelf.SlSortCmp.Whole1
import Derived.Shelf.SlSortCmp.NoneTotal
section
set_option linter.unusedVariables false
set_option maxRecDepth 20000
set_option maxHeartbeats 4000000
namespace Go.Proofs.YtkcfgglmlogjbaaGreat
theorem srecv_broken {m : SvM} {x : Sv} (h : SvIs m x) (hb : SvB x) {l : Bs} {oa : Option Addr} {ent : Ent} {c0 : Nat} (hr : RdB oa ent l) (hl : l.length ≤ 65536) (hst : x.s.br ≠ 0) : Spec Tryz.prog 17 [ptrC m.p, .slice oa l.length c0] (svH m x ++ [ent]) (fun r H' => ∃ m' x', m'.p = m.p ∧ SvIs m' x' ∧ x'.v = (x.v, 8).1 ∧ r = .int .i64 (x.v, 8).2 ∧ H' = svH m' x' ++ [ent]) := by
  refine Spec.of (E := [(0, ptrC m.p), (1, .slice oa l.length c0)]) Tryz.func17 rfl (by kernel_rfl) Tryz.ntmps17 rfl rfl (fun w => ?_)
  refine WC_seq ?_
  refine WC_region ?_
  refine WL_val rfl rfl rfl (R_assign rfl rfl) ?_
  refine WL_nil ?_
  refine WQ_code ?_
  refine WC_seq ?_
  refine WC_seq ?_
  refine WC_region ?_
  refine WL_val rfl rfl rfl (R_move rfl rfl) ?_
  refine WL_val rfl rfl rfl (R_ptrEqNil rfl Tryz.underlying41 rfl) ?_
  refine WL_nil ?_
  refine WQ_code ?_
  refine WC_F rfl ?_
  refine WC_skip ?_
  refine WQ_code ?_
  refine WC_seq ?_
  refine WC_region ?_
  refine WL_val rfl rfl rfl (R_move rfl rfl) ?_
  refine WL_val rfl rfl rfl (R_nilCheck rfl rfl) ?_
  refine WL_val rfl rfl rfl (R_fieldAddr rfl fa45_0 rfl) ?_
  refine WL_val rfl rfl rfl (R_move rfl rfl) ?_
  refine WL_val rfl rfl rfl (R_move rfl rfl) ?_
  refine WL_val rfl rfl rfl (R_makeFunc rfl rfl rfl) ?_
  refine WL_do rfl rfl rfl (D_call (rcv_broken m.p 45 _ _ _ _ _ _ hst) rfl rfl rfl rfl (pqD)) ?_
  rintro _ _ ⟨_, ⟨rfl, rfl⟩, rfl⟩
  refine WL_val rfl rfl rfl (R_assign rfl rfl) ?_
  refine WL_nil ?_
  refine WQ_code ?_
  refine WC_ret ?_
  refine WQ_ret rfl rfl (.cons (.tmp rfl) .nil) rfl (by
      exact ⟨m, x, rfl, h, rfl, rfl, rfl⟩) (pqD)
theorem srecv_full {m : SvM} {x : Sv} (h : SvIs m x) (hb : SvB x) {l : Bs} {oa : Option Addr} {ent : Ent} {c0 : Nat} (hr : RdB oa ent l) (hl : l.length ≤ 65536) (hst : x.s.br = 0) (hfull : 65536 < x.s.bs.length + l.length) : Spec Tryz.prog 17 [ptrC m.p, .slice oa l.length c0] (svH m x ++ [ent]) (fun r H' => ∃ m' x', m'.p = m.p ∧ SvIs m' x' ∧ x'.v = (x.v, 7).1 ∧ r = .int .i64 (x.v, 7).2 ∧ H' = svH m' x' ++ [ent]) := by
  have hbb := hb.bs
  have hrb := hb.rb hst
  obtain ⟨⟨out, bs, rb, last, br⟩, opn, qu⟩ := x
  simp only at hst hrb
  subst hst hrb
  refine Spec.of (E := [(0, ptrC m.p), (1, .slice oa l.length c0)]) Tryz.func17 rfl (by kernel_rfl) Tryz.ntmps17 rfl rfl (fun w => ?_)
  refine WC_seq ?_
  refine WC_region ?_
  refine WL_val rfl rfl rfl (R_assign rfl rfl) ?_
  refine WL_nil ?_
  refine WQ_code ?_
  refine WC_seq ?_
  refine WC_seq ?_
  refine WC_region ?_
  refine WL_val rfl rfl rfl (R_move rfl rfl) ?_
  refine WL_val rfl rfl rfl (R_ptrEqNil rfl Tryz.underlying41 rfl) ?_
  refine WL_nil ?_
  refine WQ_code ?_
  refine WC_F rfl ?_
  refine WC_skip ?_
  refine WQ_code ?_
  refine WC_seq ?_
  refine WC_region ?_
  refine WL_val rfl rfl rfl (R_move rfl rfl) ?_
  refine WL_val rfl rfl rfl (R_nilCheck rfl rfl) ?_
  refine WL_val rfl rfl rfl (R_fieldAddr rfl fa45_0 rfl) ?_
  refine WL_val rfl rfl rfl (R_move rfl rfl) ?_
  refine WL_val rfl rfl rfl (R_move rfl rfl) ?_
  refine WL_val rfl rfl rfl (R_makeFunc rfl rfl rfl) ?_
  refine WL_do rfl rfl rfl (D_call (rcv_full m.p 45 _ _ _ h.sd.iO (by omega) hbb hfull) rfl rfl rfl rfl (pqD)) ?_
  rintro _ _ ⟨_, ⟨rfl, rfl⟩, rfl⟩
  refine WL_val rfl rfl rfl (R_assign rfl rfl) ?_
  refine WL_nil ?_
  refine WQ_code ?_
  refine WC_ret ?_
  refine WQ_ret rfl rfl (.cons (.tmp rfl) .nil) rfl (by
      exact ⟨m, _, rfl, h, rfl, rfl, rfl⟩) (pqD)
theorem srecv_do {m : SvM} {x : Sv} (h : SvIs m x) (hb : SvB x) {l : Bs} {oa : Option Addr} {ent : Ent} {c0 : Nat} (hr : RdB oa ent l) (hl : l.length ≤ 65536) (hst : x.s.br = 0) (hfit : ¬ 65536 < x.s.bs.length + l.length) : Spec Tryz.prog 17 [ptrC m.p, .slice oa l.length c0] (svH m x ++ [ent]) (fun r H' => ∃ m' x', m'.p = m.p ∧ SvIs m' x' ∧ x'.v = (x.v.recv l).1 ∧ r = .int .i64 (x.v.recv l).2 ∧ H' = svH m' x' ++ [ent]) := by
  have hrb := hb.rb hst
  have hPI : PVI (x.s.bs.length + l.length) ({ x with s := { x.s with bs := [], rb := 0, br := 0 } } : Sv).v := ⟨hb.opn, by have h1 := hb.qu; have h2 := hb.bs; simp only [Sv.v, List.length_map]; omega, hb.last, by have h1 := hb.out; have h2 := hb.bs; simp only [Sv.v]; omega, hb.ids⟩
  have hfit2 : ¬ 65536 < x.s.bs.length + l.length := hfit
  obtain ⟨⟨out, bs, rb, last, br⟩, opn, qu⟩ := x
  simp only at hst hrb hPI hfit2
  subst hst hrb
  obtain ⟨R, hR⟩ : ∃ R, R = rcvN PV.step (bs.length + l.length + 1) ({ out := out, bs := [], rb := 0, last := last, br := 0, opn := opn, qu := qu.map Rq.v } : PV) (bs ++ l) := ⟨_, rfl⟩
  have hre : (⟨⟨out, bs, 0, last, 0⟩, opn, qu⟩ : Sv).v.recv l = (({ R.1 with bs := R.2.1, rb := R.2.2.1, br := R.2.2.2 } : PV), R.2.2.2) := by
    unfold PV.recv
    rw [if_neg (by simp [Sv.v]), if_neg (by exact hfit)]
    rw [hR]; rfl
  refine Spec.of (E := [(0, ptrC m.p), (1, .slice oa l.length c0)]) Tryz.func17 rfl (by kernel_rfl) Tryz.ntmps17 rfl rfl (fun w => ?_)
  refine WC_seq ?_
  refine WC_region ?_
  refine WL_val rfl rfl rfl (R_assign rfl rfl) ?_
  refine WL_nil ?_
  refine WQ_code ?_
  refine WC_seq ?_
  refine WC_seq ?_
  refine WC_region ?_
  refine WL_val rfl rfl rfl (R_move rfl rfl) ?_
  refine WL_val rfl rfl rfl (R_ptrEqNil rfl Tryz.underlying41 rfl) ?_
  refine WL_nil ?_
  refine WQ_code ?_
  refine WC_F rfl ?_
  refine WC_skip ?_
  refine WQ_code ?_
  refine WC_seq ?_
  refine WC_region ?_
  refine WL_val rfl rfl rfl (R_move rfl rfl) ?_
  refine WL_val rfl rfl rfl (R_nilCheck rfl rfl) ?_
  refine WL_val rfl rfl rfl (R_fieldAddr rfl fa45_0 rfl) ?_
  refine WL_val rfl rfl rfl (R_move rfl rfl) ?_
  refine WL_val rfl rfl rfl (R_move rfl rfl) ?_
  refine WL_val rfl rfl rfl (R_makeFunc rfl rfl rfl) ?_
  refine WL_do rfl rfl rfl (D_call (rcvS_ok (m := { m with sd := { m.sd with ib := none, ik := 0, ic := 0, ip := [], it := [] } }) (x := ⟨⟨out, [], 0, last, 0⟩, opn, qu⟩) m.p ⟨⟨h.sd.oO, OwnS.empty 1⟩, h.cO, h.eO, h.rO⟩ hr hl hPI h.sd.iO (by omega)) rfl rfl rfl rfl (pqD)) ?_
  rintro _ _ ⟨_, ⟨m', x', ob', k', c', pre', tl', g1, gI, g2, rfl, g4, rfl⟩, rfl⟩
  rw [show (⟨⟨out, [], 0, last, 0⟩, opn, qu⟩ : Sv).v = (⟨out, [], 0, last, 0, opn, qu.map Rq.v⟩ : PV) from rfl, ← hR] at g2 g4 ⊢
  refine WL_val rfl rfl rfl (R_assign rfl rfl) ?_
  refine WL_nil ?_
  refine WQ_code ?_
  refine WC_ret ?_
  refine WQ_ret rfl rfl (.cons (.tmp rfl) .nil) rfl (by
      exact ⟨{ m' with p := m.p, sd := { m'.sd with ib := ob', ik := k', ic := c', ip := pre', it := tl' } }, { x' with s := { x'.s with bs := R.2.1, rb := R.2.2.1, br := R.2.2.2 } }, rfl, ⟨⟨g1.sd.oO, g4⟩, g1.cO, g1.eO, g1.rO⟩, by rw [hre, ← g2]; rfl, by rw [hre]; rfl, rfl⟩) (pqD)
theorem srecv_ok {m : SvM} {x : Sv} (h : SvIs m x) (hb : SvB x) {l : Bs} {oa : Option Addr} {ent : Ent} {c0 : Nat} (hr : RdB oa ent l) (hl : l.length ≤ 65536) : Spec Tryz.prog 17 [ptrC m.p, .slice oa l.length c0] (svH m x ++ [ent]) (fun r H' => ∃ m' x', m'.p = m.p ∧ SvIs m' x' ∧ x'.v = (x.v.recv l).1 ∧ r = .int .i64 (x.v.recv l).2 ∧ H' = svH m' x' ++ [ent]) := by
  by_cases h2 : x.s.br = 0
  · by_cases h3 : 65536 < x.s.bs.length + l.length
    · rw [show x.v.recv l = (x.v, 7) from by unfold PV.recv; rw [if_neg (by simp [Sv.v, h2]), if_pos (by exact h3)]]; exact srecv_full h hb hr hl h2 h3
    · exact srecv_do h hb hr hl h2 h3
  · rw [show x.v.recv l = (x.v, 8) from by unfold PV.recv; rw [if_pos (by exact h2)]]; exact srecv_broken h hb hr hl h2
theorem reply_arg {m : SvM} {x : Sv} (h : SvIs m x) (hb : SvB x) (id code : Int) {body : Bs} {oa : Option Addr} {ent : Ent} {c : Nat} (hr : RdB oa ent body) (hbl : body.length ≤ 1000000) (hc : code < 0 ∨ 999 < code) : Spec Tryz.prog 20 [ptrC m.p, .int .i64 id, .int .i64 code, .slice oa body.length c] (svH m x ++ [ent]) (fun r H' => ∃ m' x', m'.p = m.p ∧ SvIs m' x' ∧ x'.v = (x.v, 2).1 ∧ r = .int .i64 (x.v, 2).2 ∧ H' = svH m' x' ++ [ent]) := by
  refine Spec.of (E := [(0, ptrC m.p), (1, .int .i64 id), (2, .int .i64 code), (3, .slice oa body.length c)]) Tryz.func20 rfl (by kernel_rfl) Tryz.ntmps20 rfl rfl (fun w => ?_)
  refine WC_seq ?_
  refine WC_region ?_
  refine WL_val rfl rfl rfl (R_assign rfl rfl) ?_
  refine WL_nil ?_
  refine WQ_code ?_
  refine WC_seq ?_
  refine WC_block ?_
  refine WC_seq ?_
  refine WC_region ?_
  refine WL_val rfl rfl rfl (R_move rfl rfl) ?_
  refine WL_val rfl rfl rfl (R_ptrEqNil rfl Tryz.underlying41 rfl) ?_
  refine WL_val rfl rfl rfl (R_assign rfl rfl) ?_
  refine WL_nil ?_
  refine WQ_code ?_
  refine WC_F rfl ?_
  refine WC_seq ?_
  refine WC_region ?_
  refine WL_val rfl rfl rfl (R_move rfl rfl) ?_
  refine WL_val rfl rfl rfl (R_lss rfl rfl rfl) ?_
  refine WL_val rfl rfl rfl (R_move rfl rfl) ?_
  refine WL_splitD (s := 15) rfl (fun c1 => ?_) (fun c1 => ?_)
  · have hc2 := c1
    refine WL_skip rfl rfl rfl ?_
    refine WL_skip rfl rfl rfl ?_
    refine WL_val rfl rfl rfl (R_pickT rfl rfl rfl) ?_
    refine WL_val rfl rfl rfl (R_assign rfl rfl) ?_
    refine WL_nil ?_
    refine WQ_code ?_
    refine WC_T rfl ?_
    refine WC_seq ?_
    refine WC_region ?_
    refine WL_val rfl rfl rfl (R_assign rfl rfl) ?_
    refine WL_nil ?_
    refine WQ_code ?_
    refine WC_ret ?_
    refine WQ_ret rfl rfl (.cons (.tmp rfl) .nil) rfl (by
        exact ⟨m, x, rfl, h, rfl, rfl, rfl⟩) (pqD)
  · have hc2 := c1
    refine WL_val rfl rfl rfl (R_move rfl rfl) ?_
    refine WL_val rfl rfl rfl (R_gtr rfl rfl rfl) ?_
    refine WL_val rfl rfl rfl (R_pickF rfl rfl rfl) ?_
    refine WL_val rfl rfl rfl (R_assign rfl rfl) ?_
    refine WL_nil ?_
    refine WQ_code ?_
    refine WC_dT rfl (by omega) ?_
    refine WC_seq ?_
    refine WC_region ?_
    refine WL_val rfl rfl rfl (R_assign rfl rfl) ?_
    refine WL_nil ?_
    refine WQ_code ?_
    refine WC_ret ?_
    refine WQ_ret rfl rfl (.cons (.tmp rfl) .nil) rfl (by
        exact ⟨m, x, rfl, h, rfl, rfl, rfl⟩) (pqD)
theorem reply_state {m : SvM} {x : Sv} (h : SvIs m x) (hb : SvB x) (id code : Int) {body : Bs} {oa : Option Addr} {ent : Ent} {c : Nat} (hr : RdB oa ent body) (hbl : body.length ≤ 1000000) (hc : ¬ (code < 0 ∨ 999 < code)) (hst : x.s.br ≠ 0) : Spec Tryz.prog 20 [ptrC m.p, .int .i64 id, .int .i64 code, .slice oa body.length c] (svH m x ++ [ent]) (fun r H' => ∃ m' x', m'.p = m.p ∧ SvIs m' x' ∧ x'.v = (x.v, 8).1 ∧ r = .int .i64 (x.v, 8).2 ∧ H' = svH m' x' ++ [ent]) := by
  refine Spec.of (E := [(0, ptrC m.p), (1, .int .i64 id), (2, .int .i64 code), (3, .slice oa body.length c)]) Tryz.func20 rfl (by kernel_rfl) Tryz.ntmps20 rfl rfl (fun w => ?_)
  refine WC_seq ?_
  refine WC_region ?_
  refine WL_val rfl rfl rfl (R_assign rfl rfl) ?_
  refine WL_nil ?_
  refine WQ_code ?_
  refine WC_seq ?_
  refine WC_block ?_
  refine WC_seq ?_
  refine WC_region ?_
  refine WL_val rfl rfl rfl (R_move rfl rfl) ?_
  refine WL_val rfl rfl rfl (R_ptrEqNil rfl Tryz.underlying41 rfl) ?_
  refine WL_val rfl rfl rfl (R_assign rfl rfl) ?_
  refine WL_nil ?_
  refine WQ_code ?_
  refine WC_F rfl ?_
  refine WC_seq ?_
  refine WC_region ?_
  refine WL_val rfl rfl rfl (R_move rfl rfl) ?_
  refine WL_val rfl rfl rfl (R_lss rfl rfl rfl) ?_
  refine WL_val rfl rfl rfl (R_move rfl rfl) ?_
  refine WL_set (s := 15) (v := .bool false) rfl (by exact congrArg Value.bool (decide_eq_false (by omega))) ?_
  refine WL_val rfl rfl rfl (R_move rfl rfl) ?_
  refine WL_val rfl rfl rfl (R_gtr rfl rfl rfl) ?_
  refine WL_val rfl rfl rfl (R_pickF rfl rfl rfl) ?_
  refine WL_val rfl rfl rfl (R_assign rfl rfl) ?_
  refine WL_nil ?_
  refine WQ_code ?_
  refine WC_dF rfl (by omega) ?_
  refine WC_seq ?_
  refine WC_region ?_
  refine WL_val rfl rfl rfl (R_move rfl rfl) ?_
  refine WL_val rfl rfl rfl (R_nilCheck rfl rfl) ?_
  refine WL_val rfl rfl rfl (R_fieldAddr rfl fa45_0 rfl) ?_
  refine WL_val rfl rfl rfl (R_fieldAddr rfl fa34_3 rfl) ?_
  refine WL_val rfl rfl rfl (R_load rfl sc27 rfl (mmD) rfl) ?_
  refine WL_val rfl rfl rfl (R_neq rfl rfl rfl) ?_
  refine WL_val rfl rfl rfl (R_assign rfl rfl) ?_
  refine WL_nil ?_
  refine WQ_code ?_
  refine WC_dT rfl (by exact hst) ?_
  refine WC_seq ?_
  refine WC_region ?_
  refine WL_val rfl rfl rfl (R_assign rfl rfl) ?_
  refine WL_nil ?_
  refine WQ_code ?_
  refine WC_ret ?_
  refine WQ_ret rfl rfl (.cons (.tmp rfl) .nil) rfl (by
      exact ⟨m, x, rfl, h, rfl, rfl, rfl⟩) (pqD)
theorem reply_long {m : SvM} {x : Sv} (h : SvIs m x) (hb : SvB x) (id code : Int) {body : Bs} {oa : Option Addr} {ent : Ent} {c : Nat} (hr : RdB oa ent body) (hbl : body.length ≤ 1000000) (hc : ¬ (code < 0 ∨ 999 < code)) (hst : x.s.br = 0) (hl : 1018 < body.length) : Spec Tryz.prog 20 [ptrC m.p, .int .i64 id, .int .i64 code, .slice oa body.length c] (svH m x ++ [ent]) (fun r H' => ∃ m' x', m'.p = m.p ∧ SvIs m' x' ∧ x'.v = (x.v, 5).1 ∧ r = .int .i64 (x.v, 5).2 ∧ H' = svH m' x' ++ [ent]) := by
  refine Spec.of (E := [(0, ptrC m.p), (1, .int .i64 id), (2, .int .i64 code), (3, .slice oa body.length c)]) Tryz.func20 rfl (by kernel_rfl) Tryz.ntmps20 rfl rfl (fun w => ?_)
  refine WC_seq ?_
  refine WC_region ?_
  refine WL_val rfl rfl rfl (R_assign rfl rfl) ?_
  refine WL_nil ?_
  refine WQ_code ?_
  refine WC_seq ?_
  refine WC_block ?_
  refine WC_seq ?_
  refine WC_region ?_
  refine WL_val rfl rfl rfl (R_move rfl rfl) ?_
  refine WL_val rfl rfl rfl (R_ptrEqNil rfl Tryz.underlying41 rfl) ?_
  refine WL_val rfl rfl rfl (R_assign rfl rfl) ?_
  refine WL_nil ?_
  refine WQ_code ?_
  refine WC_F rfl ?_
  refine WC_seq ?_
  refine WC_region ?_
  refine WL_val rfl rfl rfl (R_move rfl rfl) ?_
  refine WL_val rfl rfl rfl (R_lss rfl rfl rfl) ?_
  refine WL_val rfl rfl rfl (R_move rfl rfl) ?_
  refine WL_set (s := 15) (v := .bool false) rfl (by exact congrArg Value.bool (decide_eq_false (by omega))) ?_
  refine WL_val rfl rfl rfl (R_move rfl rfl) ?_
  refine WL_val rfl rfl rfl (R_gtr rfl rfl rfl) ?_
  refine WL_val rfl rfl rfl (R_pickF rfl rfl rfl) ?_
  refine WL_val rfl rfl rfl (R_assign rfl rfl) ?_
  refine WL_nil ?_
  refine WQ_code ?_
  refine WC_dF rfl (by omega) ?_
  refine WC_seq ?_
  refine WC_region ?_
  refine WL_val rfl rfl rfl (R_move rfl rfl) ?_
  refine WL_val rfl rfl rfl (R_nilCheck rfl rfl) ?_
  refine WL_val rfl rfl rfl (R_fieldAddr rfl fa45_0 rfl) ?_
  refine WL_val rfl rfl rfl (R_fieldAddr rfl fa34_3 rfl) ?_
  refine WL_val rfl rfl rfl (R_load rfl sc27 rfl (mmD) rfl) ?_
  refine WL_val rfl rfl rfl (R_neq rfl rfl rfl) ?_
  refine WL_val rfl rfl rfl (R_assign rfl rfl) ?_
  refine WL_nil ?_
  refine WQ_code ?_
  refine WC_dF rfl (by exact fun e => e hst) ?_
  refine WC_seq ?_
  refine WC_region ?_
  refine WL_val rfl rfl rfl (R_move rfl rfl) ?_
  refine WL_val rfl rfl rfl (R_len rfl Tryz.underlying23 rfl) ?_
  refine WL_val rfl rfl rfl (R_gtr rfl rfl rfl) ?_
  refine WL_val rfl rfl rfl (R_assign rfl rfl) ?_
  refine WL_nil ?_
  refine WQ_code ?_
  refine WC_dT rfl (by omega) ?_
  refine WC_seq ?_
  refine WC_region ?_
  refine WL_val rfl rfl rfl (R_assign rfl rfl) ?_
  refine WL_nil ?_
  refine WQ_code ?_
  refine WC_ret ?_
  refine WQ_ret rfl rfl (.cons (.tmp rfl) .nil) rfl (by
      exact ⟨m, x, rfl, h, rfl, rfl, rfl⟩) (pqD)
theorem reply_none {m : SvM} {x : Sv} (h : SvIs m x) (hb : SvB x) (id code : Int) {body : Bs} {oa : Option Addr} {ent : Ent} {c : Nat} (hr : RdB oa ent body) (hbl : body.length ≤ 1000000) (hc : ¬ (code < 0 ∨ 999 < code)) (hst : x.s.br = 0) (hl : ¬ 1018 < body.length) (hno : x.opn.any (eqI id) = false) : Spec Tryz.prog 20 [ptrC m.p, .int .i64 id, .int .i64 code, .slice oa body.length c] (svH m x ++ [ent]) (fun r H' => ∃ m' x', m'.p = m.p ∧ SvIs m' x' ∧ x'.v = (x.v, 9).1 ∧ r = .int .i64 (x.v, 9).2 ∧ H' = svH m' x' ++ [ent]) := by
  have hop := hb.opn
  have hqu := hb.qu
  have hbo := hb.out
  refine Spec.of (E := [(0, ptrC m.p), (1, .int .i64 id), (2, .int .i64 code), (3, .slice oa body.length c)]) Tryz.func20 rfl (by kernel_rfl) Tryz.ntmps20 rfl rfl (fun w => ?_)
  refine WC_seq ?_
  refine WC_region ?_
  refine WL_val rfl rfl rfl (R_assign rfl rfl) ?_
  refine WL_nil ?_
  refine WQ_code ?_
  refine WC_seq ?_
  refine WC_block ?_
  refine WC_seq ?_
  refine WC_region ?_
  refine WL_val rfl rfl rfl (R_move rfl rfl) ?_
  refine WL_val rfl rfl rfl (R_ptrEqNil rfl Tryz.underlying41 rfl) ?_
  refine WL_val rfl rfl rfl (R_assign rfl rfl) ?_
  refine WL_nil ?_
  refine WQ_code ?_
  refine WC_F rfl ?_
  refine WC_seq ?_
  refine WC_region ?_
  refine WL_val rfl rfl rfl (R_move rfl rfl) ?_
  refine WL_val rfl rfl rfl (R_lss rfl rfl rfl) ?_
  refine WL_val rfl rfl rfl (R_move rfl rfl) ?_
  refine WL_set (s := 15) (v := .bool false) rfl (by exact congrArg Value.bool (decide_eq_false (by omega))) ?_
  refine WL_val rfl rfl rfl (R_move rfl rfl) ?_
  refine WL_val rfl rfl rfl (R_gtr rfl rfl rfl) ?_
  refine WL_val rfl rfl rfl (R_pickF rfl rfl rfl) ?_
  refine WL_val rfl rfl rfl (R_assign rfl rfl) ?_
  refine WL_nil ?_
  refine WQ_code ?_
  refine WC_dF rfl (by omega) ?_
  refine WC_seq ?_
  refine WC_region ?_
  refine WL_val rfl rfl rfl (R_move rfl rfl) ?_
  refine WL_val rfl rfl rfl (R_nilCheck rfl rfl) ?_
  refine WL_val rfl rfl rfl (R_fieldAddr rfl fa45_0 rfl) ?_
  refine WL_val rfl rfl rfl (R_fieldAddr rfl fa34_3 rfl) ?_
  refine WL_val rfl rfl rfl (R_load rfl sc27 rfl (mmD) rfl) ?_
  refine WL_val rfl rfl rfl (R_neq rfl rfl rfl) ?_
  refine WL_val rfl rfl rfl (R_assign rfl rfl) ?_
  refine WL_nil ?_
  refine WQ_code ?_
  refine WC_dF rfl (by exact fun e => e hst) ?_
  refine WC_seq ?_
  refine WC_region ?_
  refine WL_val rfl rfl rfl (R_move rfl rfl) ?_
  refine WL_val rfl rfl rfl (R_len rfl Tryz.underlying23 rfl) ?_
  refine WL_val rfl rfl rfl (R_gtr rfl rfl rfl) ?_
  refine WL_val rfl rfl rfl (R_assign rfl rfl) ?_
  refine WL_nil ?_
  refine WQ_code ?_
  refine WC_dF rfl (by omega) ?_
  refine WC_seq ?_
  refine WC_region ?_
  refine WL_val rfl rfl rfl (R_move rfl rfl) ?_
  refine WL_val rfl rfl rfl (R_nilCheck rfl rfl) ?_
  refine WL_val rfl rfl rfl (R_fieldAddr rfl fa45_1 rfl) ?_
  refine WL_val rfl rfl rfl (R_load rfl sc42 rfl (mmD) rfl) ?_
  refine WL_val rfl rfl rfl (R_move rfl rfl) ?_
  refine WL_do rfl rfl rfl (D_call (icon_ok (by omega) h.cO id) rfl rfl rfl rfl (pqD)) ?_
  rintro _ _ ⟨_, ⟨rfl, rfl⟩, rfl⟩
  refine WL_set (s := 36) (v := .bool false) rfl (by rw [hno]) ?_
  refine WL_val rfl rfl rfl (R_not rfl rfl) ?_
  refine WL_val rfl rfl rfl (R_assign rfl rfl) ?_
  refine WL_nil ?_
  refine WQ_code ?_
  refine WC_T rfl ?_
  refine WC_seq ?_
  refine WC_region ?_
  refine WL_val rfl rfl rfl (R_assign rfl rfl) ?_
  refine WL_nil ?_
  refine WQ_code ?_
  refine WC_ret ?_
  refine WQ_ret rfl rfl (.cons (.tmp rfl) .nil) rfl (by
      exact ⟨m, x, rfl, h, rfl, rfl, rfl⟩) (pqD)
theorem reply_full {m : SvM} {x : Sv} (h : SvIs m x) (hb : SvB x) (id code : Int) {body : Bs} {oa : Option Addr} {ent : Ent} {c : Nat} (hr : RdB oa ent body) (hbl : body.length ≤ 1000000) (hc : ¬ (code < 0 ∨ 999 < code)) (hst : x.s.br = 0) (hl : ¬ 1018 < body.length) (hyes : x.opn.any (eqI id) = true) (hf : 65536 < x.s.out.length) : Spec Tryz.prog 20 [ptrC m.p, .int .i64 id, .int .i64 code, .slice oa body.length c] (svH m x ++ [ent]) (fun r H' => ∃ m' x', m'.p = m.p ∧ SvIs m' x' ∧ x'.v = (x.v, 7).1 ∧ r = .int .i64 (x.v, 7).2 ∧ H' = svH m' x' ++ [ent]) := by
  have hop := hb.opn
  have hqu := hb.qu
  have hbo := hb.out
  refine Spec.of (E := [(0, ptrC m.p), (1, .int .i64 id), (2, .int .i64 code), (3, .slice oa body.length c)]) Tryz.func20 rfl (by kernel_rfl) Tryz.ntmps20 rfl rfl (fun w => ?_)
  refine WC_seq ?_
  refine WC_region ?_
  refine WL_val rfl rfl rfl (R_assign rfl rfl) ?_
  refine WL_nil ?_
  refine WQ_code ?_
  refine WC_seq ?_
  refine WC_block ?_
  refine WC_seq ?_
  refine WC_region ?_
  refine WL_val rfl rfl rfl (R_move rfl rfl) ?_
  refine WL_val rfl rfl rfl (R_ptrEqNil rfl Tryz.underlying41 rfl) ?_
  refine WL_val rfl rfl rfl (R_assign rfl rfl) ?_
  refine WL_nil ?_
  refine WQ_code ?_
  refine WC_F rfl ?_
  refine WC_seq ?_
  refine WC_region ?_
  refine WL_val rfl rfl rfl (R_move rfl rfl) ?_
  refine WL_val rfl rfl rfl (R_lss rfl rfl rfl) ?_
  refine WL_val rfl rfl rfl (R_move rfl rfl) ?_
  refine WL_set (s := 15) (v := .bool false) rfl (by exact congrArg Value.bool (decide_eq_false (by omega))) ?_
  refine WL_val rfl rfl rfl (R_move rfl rfl) ?_
  refine WL_val rfl rfl rfl (R_gtr rfl rfl rfl) ?_
  refine WL_val rfl rfl rfl (R_pickF rfl rfl rfl) ?_
  refine WL_val rfl rfl rfl (R_assign rfl rfl) ?_
  refine WL_nil ?_
  refine WQ_code ?_
  refine WC_dF rfl (by omega) ?_
  refine WC_seq ?_
  refine WC_region ?_
  refine WL_val rfl rfl rfl (R_move rfl rfl) ?_
  refine WL_val rfl rfl rfl (R_nilCheck rfl rfl) ?_
  refine WL_val rfl rfl rfl (R_fieldAddr rfl fa45_0 rfl) ?_
  refine WL_val rfl rfl rfl (R_fieldAddr rfl fa34_3 rfl) ?_
  refine WL_val rfl rfl rfl (R_load rfl sc27 rfl (mmD) rfl) ?_
  refine WL_val rfl rfl rfl (R_neq rfl rfl rfl) ?_
  refine WL_val rfl rfl rfl (R_assign rfl rfl) ?_
  refine WL_nil ?_
  refine WQ_code ?_
  refine WC_dF rfl (by exact fun e => e hst) ?_
  refine WC_seq ?_
  refine WC_region ?_
  refine WL_val rfl rfl rfl (R_move rfl rfl) ?_
  refine WL_val rfl rfl rfl (R_len rfl Tryz.underlying23 rfl) ?_
  refine WL_val rfl rfl rfl (R_gtr rfl rfl rfl) ?_
  refine WL_val rfl rfl rfl (R_assign rfl rfl) ?_
  refine WL_nil ?_
  refine WQ_code ?_
  refine WC_dF rfl (by omega) ?_
  refine WC_seq ?_
  refine WC_region ?_
  refine WL_val rfl rfl rfl (R_move rfl rfl) ?_
  refine WL_val rfl rfl rfl (R_nilCheck rfl rfl) ?_
  refine WL_val rfl rfl rfl (R_fieldAddr rfl fa45_1 rfl) ?_
  refine WL_val rfl rfl rfl (R_load rfl sc42 rfl (mmD) rfl) ?_
  refine WL_val rfl rfl rfl (R_move rfl rfl) ?_
  refine WL_do rfl rfl rfl (D_call (icon_ok (by omega) h.cO id) rfl rfl rfl rfl (pqD)) ?_
  rintro _ _ ⟨_, ⟨rfl, rfl⟩, rfl⟩
  refine WL_set (s := 36) (v := .bool true) rfl (by rw [hyes]) ?_
  refine WL_val rfl rfl rfl (R_not rfl rfl) ?_
  refine WL_val rfl rfl rfl (R_assign rfl rfl) ?_
  refine WL_nil ?_
  refine WQ_code ?_
  refine WC_F rfl ?_
  refine WC_seq ?_
  refine WC_region ?_
  refine WL_val rfl rfl rfl (R_move rfl rfl) ?_
  refine WL_val rfl rfl rfl (R_nilCheck rfl rfl) ?_
  refine WL_val rfl rfl rfl (R_fieldAddr rfl fa45_0 rfl) ?_
  refine WL_val rfl rfl rfl (R_fieldAddr rfl fa34_0 rfl) ?_
  refine WL_val rfl rfl rfl (R_load rfl sc23 rfl (mmD) rfl) ?_
  refine WL_val rfl rfl rfl (R_len rfl Tryz.underlying23 rfl) ?_
  refine WL_val rfl rfl rfl (R_gtr rfl rfl rfl) ?_
  refine WL_val rfl rfl rfl (R_assign rfl rfl) ?_
  refine WL_nil ?_
  refine WQ_code ?_
  refine WC_dT rfl (by omega) ?_
  refine WC_seq ?_
  refine WC_region ?_
  refine WL_val rfl rfl rfl (R_assign rfl rfl) ?_
  refine WL_nil ?_
  refine WQ_code ?_
  refine WC_ret ?_
  refine WQ_ret rfl rfl (.cons (.tmp rfl) .nil) rfl (by
      exact ⟨m, x, rfl, h, rfl, rfl, rfl⟩) (pqD)
theorem reply_do {m : SvM} {x : Sv} (h : SvIs m x) (hb : SvB x) (id code : Int) {body : Bs} {oa : Option Addr} {ent : Ent} {c : Nat} (hr : RdB oa ent body) (hbl : body.length ≤ 1000000) (hc : ¬ (code < 0 ∨ 999 < code)) (hst : x.s.br = 0) (hl : ¬ 1018 < body.length) (hyes : x.opn.any (eqI id) = true) (hf : ¬ 65536 < x.s.out.length) : Spec Tryz.prog 20 [ptrC m.p, .int .i64 id, .int .i64 code, .slice oa body.length c] (svH m x ++ [ent]) (fun r H' => ∃ m' x', m'.p = m.p ∧ SvIs m' x' ∧ x'.v = (({ x.v.close id with out := x.v.out ++ encF 17 (bigB id.toNat 4 ++ (bigB code.toNat 2 ++ body)) } : PV), 0).1 ∧ r = .int .i64 (({ x.v.close id with out := x.v.out ++ encF 17 (bigB id.toNat 4 ++ (bigB code.toNat 2 ++ body)) } : PV), 0).2 ∧ H' = svH m' x' ++ [ent]) := by
  have hop := hb.opn
  have hqu := hb.qu
  have hbo := hb.out
  obtain ⟨kk, x0, hidx, hx0, hp0, h0⟩ := idxF_at (eqI id) x.opn hyes
  have hx1 : id = x0 := of_decide_eq_true hp0
  have hid9 := hb.ids x0 (List.mem_of_getElem? hx0)
  rw [← hx1] at hid9
  obtain ⟨n, rfl⟩ : ∃ n : Nat, id = n := ⟨id.toNat, by omega⟩
  obtain ⟨cd, rfl⟩ : ∃ n : Nat, code = n := ⟨code.toNat, by omega⟩
  obtain ⟨G, hG⟩ := rqH_flt (nP (isQ (n : Int))) x.qu
  rw [Int.toNat_natCast, Int.toNat_natCast]
  refine Spec.of (E := [(0, ptrC m.p), (1, .int .i64 (n : Int)), (2, .int .i64 (cd : Int)), (3, .slice oa body.length c)]) Tryz.func20 rfl (by kernel_rfl) Tryz.ntmps20 rfl rfl (fun w => ?_)
  refine WC_seq ?_
  refine WC_region ?_
  refine WL_val rfl rfl rfl (R_assign rfl rfl) ?_
  refine WL_nil ?_
  refine WQ_code ?_
  refine WC_seq ?_
  refine WC_block ?_
  refine WC_seq ?_
  refine WC_region ?_
  refine WL_val rfl rfl rfl (R_move rfl rfl) ?_
  refine WL_val rfl rfl rfl (R_ptrEqNil rfl Tryz.underlying41 rfl) ?_
  refine WL_val rfl rfl rfl (R_assign rfl rfl) ?_
  refine WL_nil ?_
  refine WQ_code ?_
  refine WC_F rfl ?_
  refine WC_seq ?_
  refine WC_region ?_
  refine WL_val rfl rfl rfl (R_move rfl rfl) ?_
  refine WL_val rfl rfl rfl (R_lss rfl rfl rfl) ?_
  refine WL_val rfl rfl rfl (R_move rfl rfl) ?_
  refine WL_set (s := 15) (v := .bool false) rfl (by exact congrArg Value.bool (decide_eq_false (by omega))) ?_
  refine WL_val rfl rfl rfl (R_move rfl rfl) ?_
  refine WL_val rfl rfl rfl (R_gtr rfl rfl rfl) ?_
  refine WL_val rfl rfl rfl (R_pickF rfl rfl rfl) ?_
  refine WL_val rfl rfl rfl (R_assign rfl rfl) ?_
  refine WL_nil ?_
  refine WQ_code ?_
  refine WC_dF rfl (by omega) ?_
  refine WC_seq ?_
  refine WC_region ?_
  refine WL_val rfl rfl rfl (R_move rfl rfl) ?_
  refine WL_val rfl rfl rfl (R_nilCheck rfl rfl) ?_
  refine WL_val rfl rfl rfl (R_fieldAddr rfl fa45_0 rfl) ?_
  refine WL_val rfl rfl rfl (R_fieldAddr rfl fa34_3 rfl) ?_
  refine WL_val rfl rfl rfl (R_load rfl sc27 rfl (mmD) rfl) ?_
  refine WL_val rfl rfl rfl (R_neq rfl rfl rfl) ?_
  refine WL_val rfl rfl rfl (R_assign rfl rfl) ?_
  refine WL_nil ?_
  refine WQ_code ?_
  refine WC_dF rfl (by exact fun e => e hst) ?_
  refine WC_seq ?_
  refine WC_region ?_
  refine WL_val rfl rfl rfl (R_move rfl rfl) ?_
  refine WL_val rfl rfl rfl (R_len rfl Tryz.underlying23 rfl) ?_
  refine WL_val rfl rfl rfl (R_gtr rfl rfl rfl) ?_
  refine WL_val rfl rfl rfl (R_assign rfl rfl) ?_
  refine WL_nil ?_
  refine WQ_code ?_
  refine WC_dF rfl (by omega) ?_
  refine WC_seq ?_
  refine WC_region ?_
  refine WL_val rfl rfl rfl (R_move rfl rfl) ?_
  refine WL_val rfl rfl rfl (R_nilCheck rfl rfl) ?_
  refine WL_val rfl rfl rfl (R_fieldAddr rfl fa45_1 rfl) ?_
  refine WL_val rfl rfl rfl (R_load rfl sc42 rfl (mmD) rfl) ?_
  refine WL_val rfl rfl rfl (R_move rfl rfl) ?_
  refine WL_do rfl rfl rfl (D_call (icon_ok (by omega) h.cO (n : Int)) rfl rfl rfl rfl (pqD)) ?_
  rintro _ _ ⟨_, ⟨rfl, rfl⟩, rfl⟩
  refine WL_set (s := 36) (v := .bool true) rfl (by rw [hyes]) ?_
  refine WL_val rfl rfl rfl (R_not rfl rfl) ?_
  refine WL_val rfl rfl rfl (R_assign rfl rfl) ?_
  refine WL_nil ?_
  refine WQ_code ?_
  refine WC_F rfl ?_
  refine WC_seq ?_
  refine WC_region ?_
  refine WL_val rfl rfl rfl (R_move rfl rfl) ?_
  refine WL_val rfl rfl rfl (R_nilCheck rfl rfl) ?_
  refine WL_val rfl rfl rfl (R_fieldAddr rfl fa45_0 rfl) ?_
  refine WL_val rfl rfl rfl (R_fieldAddr rfl fa34_0 rfl) ?_
  refine WL_val rfl rfl rfl (R_load rfl sc23 rfl (mmD) rfl) ?_
  refine WL_val rfl rfl rfl (R_len rfl Tryz.underlying23 rfl) ?_
  refine WL_val rfl rfl rfl (R_gtr rfl rfl rfl) ?_
  refine WL_val rfl rfl rfl (R_assign rfl rfl) ?_
  refine WL_nil ?_
  refine WQ_code ?_
  refine WC_dF rfl (by omega) ?_
  refine WC_skip ?_
  refine WQ_code ?_
  refine WC_seq ?_
  refine WC_region ?_
  refine WL_val rfl rfl rfl (R_move rfl rfl) ?_
  refine WL_val rfl rfl rfl (R_move rfl rfl) ?_
  refine WL_do rfl rfl rfl (D_call (sclose_yes m.p _ _ _ _ _ h.cO h.eO (by omega) (by omega) (n : Int) hyes) rfl rfl rfl rfl (pqD)) ?_
  rintro _ _ ⟨_, ⟨ctl9, etl9, rfl, ownC, ownQ, rfl⟩, rfl⟩
  refine WL_nil ?_
  refine WQ_code ?_
  refine WC_seq ?_
  refine WC_drawR (⟨some m.p, _⟩ :: [⟨m.sd.ob, _⟩]) [(0, true), (1, true), (2, true), (3, true), (5, true), (6, true), (8, true), (4, false), (7, false), (9, false), (10, false)] followsMixed rfl rfl (by kernel_rfl) (pqD) ?_
  refine WM_val rfl rfl rfl rfl (R_move rfl rfl) ?_
  refine WM_val rfl rfl rfl rfl (R_nilCheck rfl rfl) ?_
  refine WM_val rfl rfl rfl rfl (R_fieldAddr rfl fa45_0 rfl) ?_
  refine WM_val rfl rfl rfl rfl (R_move rfl rfl) ?_
  refine WM_val rfl rfl rfl rfl (R_move rfl rfl) ?_
  refine WM_val rfl rfl rfl rfl (R_conv (r := (cd : Int)) rfl Tryz.underlying27 Tryz.underlying35 rfl (by rw [w64 ⟨by omega, by omega⟩])) ?_
  refine WM_val rfl rfl rfl rfl (R_move rfl rfl) ?_
  refine WM_do rfl rfl rfl rfl (D_call (four_ok n (by omega)) rfl rfl rfl rfl (pqD)) ?_
  rintro _ _ ⟨_, ⟨b4, rfl, rfl⟩, rfl⟩
  refine ⟨⟨_, pqD⟩, ?_⟩
  refine WM_do rfl rfl rfl rfl (D_call (big_ok cd 2 (by omega) (by decide)) rfl rfl rfl rfl (pqD)) ?_
  rintro _ _ ⟨_, ⟨b8, rfl, rfl⟩, rfl⟩
  refine ⟨⟨_, pqD⟩, ?_⟩
  refine WM_do rfl rfl rfl rfl (D_buildSlice rfl si22 rfl rfl rfl) ?_
  rintro _ _ ⟨b1, rfl, rfl⟩
  refine ⟨⟨_, pqD⟩, ?_⟩
  refine WM_do rfl rfl rfl rfl (D_call (send_ok m.p 45 _ h.sd.oO 17 b1 [⟨some ⟨b4, 0, none⟩, 4, bigB n 4⟩, ⟨some ⟨b8, 0, none⟩, 2, bigB cd 2⟩, ⟨oa, c, body⟩] [⟨some b4, cl (bvs (bigB n 4)) 5⟩, ⟨some b8, cl (bvs (bigB cd 2)) 5⟩, ent] (by simp) (by simp) (parts3 (RdB.blk b4 _) (RdB.blk b8 _) hr) (short2 (by simp [bigB_len]) (by simp [bigB_len]) (by show body.length ≤ _; omega)) (by simp [joinL, bigB_len]; omega) (by omega)) rfl rfl rfl rfl (pqD)) ?_
  rintro _ _ ⟨_, ⟨ob3, k3, c3, pre3, tl3, rfl, rfl, own3⟩, rfl⟩
  refine ⟨⟨_, pqD⟩, ?_⟩
  rw [show joinL [⟨some ⟨b4, 0, none⟩, 4, bigB n 4⟩, ⟨some ⟨b8, 0, none⟩, 2, bigB cd 2⟩, ⟨oa, c, body⟩] = bigB n 4 ++ (bigB cd 2 ++ body) from by simp [joinL]] at own3 ⊢
  refine WM_nil ?_
  refine WQ_code ?_
  refine WC_seq ?_
  refine WC_region ?_
  refine WL_val rfl rfl rfl (R_assign rfl rfl) ?_
  refine WL_nil ?_
  refine WQ_code ?_
  refine WC_ret ?_
  refine WQshp (A := rqH x.qu) (A' := rqH (x.qu.filter (nP (isQ (n : Int)))) ++ G) pqD hG ?_
  refine WQ_ret rfl rfl (.cons (.tmp rfl) .nil) rfl (by
      exact ⟨{ m with sd := { m.sd with ob := ob3, ok := k3, oc := c3, op := pre3, ot := tl3 }, ctl := ctl9, etl := etl9 }, { x with s := { x.s with out := x.s.out ++ encF 17 (bigB n 4 ++ (bigB cd 2 ++ body)) }, opn := delI (n : Int) x.opn, qu := x.qu.filter (nP (isQ (n : Int))) }, rfl, ⟨⟨own3, h.sd.iO⟩, ownC, ownQ, rq_flt h.rO⟩, by unfold PV.close; rw [if_pos (show x.v.opn.any (eqI (n : Int)) = true from hyes)]; simp only [Sv.v, notId_map], rfl, rfl⟩) (pqD)
theorem reply_ok {m : SvM} {x : Sv} (h : SvIs m x) (hb : SvB x) (id code : Int) {body : Bs} {oa : Option Addr} {ent : Ent} {c : Nat} (hr : RdB oa ent body) (hbl : body.length ≤ 1000000) : Spec Tryz.prog 20 [ptrC m.p, .int .i64 id, .int .i64 code, .slice oa body.length c] (svH m x ++ [ent]) (fun r H' => ∃ m' x', m'.p = m.p ∧ SvIs m' x' ∧ x'.v = (x.v.reply id code body).1 ∧ r = .int .i64 (x.v.reply id code body).2 ∧ H' = svH m' x' ++ [ent]) := by
  unfold PV.reply
  by_cases h1 : code < 0 ∨ 999 < code
  · rw [if_pos h1]; exact reply_arg h hb id code hr hbl h1
  rw [if_neg h1]
  by_cases h2 : x.s.br = 0
  · rw [if_neg (show ¬ x.v.br ≠ 0 from fun e => e h2)]
    by_cases h3 : 1018 < body.length
    · rw [if_pos h3]; exact reply_long h hb id code hr hbl h1 h2 h3
    rw [if_neg h3]
    by_cases h4 : x.opn.any (eqI id) = false
    · rw [if_pos (show x.v.opn.any (eqI id) = false from h4)]; exact reply_none h hb id code hr hbl h1 h2 h3 h4
    rw [if_neg (show ¬ x.v.opn.any (eqI id) = false from h4)]
    have h5 : x.opn.any (eqI id) = true := by simpa using h4
    by_cases h6 : 65536 < x.s.out.length
    · rw [if_pos (show 65536 < x.v.out.length from h6)]; exact reply_full h hb id code hr hbl h1 h2 h3 h5 h6
    · rw [if_neg (show ¬ 65536 < x.v.out.length from h6)]; exact reply_do h hb id code hr hbl h1 h2 h3 h5 h6
  · rw [if_pos (show x.v.br ≠ 0 from h2)]; exact reply_state h hb id code hr hbl h1 h2
end Go.Proofs.YtkcfgglmlogjbaaGreat
end
section
set_option linter.unusedVariables false
set_option maxRecDepth 20000
set_option maxHeartbeats 4000000
namespace Go.Proofs.YtkcfgglmlogjbaaGreat
theorem sout_do {m : SvM} {x : Sv} (h : SvIs m x) (hb : SvB x) (n : Nat) (hn : n ≤ 65536) : Spec Tryz.prog 14 [ptrC m.p, .int .i64 (n : Int)] (svH m x) (fun r H' => ∃ o c2 tl2 m' x', m'.p = m.p ∧ SvIs m' x' ∧ x'.v = { x.v with out := x.v.out.drop n } ∧ r = .tuple #[slV o (x.v.out.take n).length c2, .int .i64 0] ∧ Own o (x.v.out.take n).length c2 1 (bvs (x.v.out.take n)) tl2 ∧ H' = svH m' x' ++ [⟨o, cl (bvs (x.v.out.take n) ++ tl2) 5⟩]) := by
  have hbo := hb.out
  refine Spec.of (E := [(0, ptrC m.p), (1, .int .i64 (n : Int))]) Tryz.func14 rfl (by kernel_rfl) Tryz.ntmps14 rfl rfl (fun w => ?_)
  refine WC_seq ?_
  refine WC_region ?_
  refine WL_val rfl rfl rfl (R_assign rfl rfl) ?_
  refine WL_val rfl rfl rfl (R_assign rfl rfl) ?_
  refine WL_nil ?_
  refine WQ_code ?_
  refine WC_seq ?_
  refine WC_seq ?_
  refine WC_region ?_
  refine WL_val rfl rfl rfl (R_move rfl rfl) ?_
  refine WL_val rfl rfl rfl (R_ptrEqNil rfl Tryz.underlying41 rfl) ?_
  refine WL_nil ?_
  refine WQ_code ?_
  refine WC_F rfl ?_
  refine WC_skip ?_
  refine WQ_code ?_
  refine WC_seq ?_
  refine WC_region ?_
  refine WL_val rfl rfl rfl (R_move rfl rfl) ?_
  refine WL_val rfl rfl rfl (R_nilCheck rfl rfl) ?_
  refine WL_val rfl rfl rfl (R_fieldAddr rfl fa45_0 rfl) ?_
  refine WL_val rfl rfl rfl (R_move rfl rfl) ?_
  refine WL_do rfl rfl rfl (D_call (take_any m.p 45 _ h.sd.oO n hn (by omega)) rfl rfl rfl rfl (pqD)) ?_
  rintro _ _ ⟨_, ⟨o9, c9, tl9, k9, c8, pre9, rfl, rfl, hO9, own9⟩, rfl⟩
  refine WL_val rfl rfl rfl (R_extract rfl rfl rfl) ?_
  refine WL_val rfl rfl rfl (R_extract rfl rfl rfl) ?_
  refine WL_val rfl rfl rfl (R_assign rfl rfl) ?_
  refine WL_val rfl rfl rfl (R_assign rfl rfl) ?_
  refine WL_nil ?_
  refine WQ_code ?_
  refine WC_ret ?_
  refine WQ_ret rfl rfl (.cons (.tmp rfl) (.cons (.tmp rfl) .nil)) rfl (by
      exact ⟨o9, c9, tl9, { m with sd := { m.sd with ok := k9, oc := c8, op := pre9 } }, { x with s := { x.s with out := x.s.out.drop n } }, rfl, ⟨⟨hO9, h.sd.iO⟩, h.cO, h.eO, h.rO⟩, rfl, rfl, own9, rfl⟩) (pqD)
theorem snext_empty {m : SvM} {x : Sv} (h : SvIs m x) (hb : SvB x) (he : x.qu = []) : Spec Tryz.prog 19 [ptrC m.p] (svH m x) (SPost m.p (x.v, .tuple #[.agg #[.int .i64 0, .int .u64 0, .slice none 0 0], .bool false])) := by
  refine Spec.of (E := [(0, ptrC m.p)]) Tryz.func19 rfl (by kernel_rfl) Tryz.ntmps19 rfl rfl (fun w => ?_)
  refine WC_seq ?_
  refine WC_region ?_
  refine WL_do rfl rfl rfl (D_alloc rfl zv59) ?_
  rintro _ _ ⟨b1, rfl, rfl⟩
  refine WL_val rfl rfl rfl (R_assign rfl rfl) ?_
  refine WL_nil ?_
  refine WQ_code ?_
  refine WC_seq ?_
  refine WC_seq ?_
  refine WC_region ?_
  refine WL_val rfl rfl rfl (R_move rfl rfl) ?_
  refine WL_val rfl rfl rfl (R_ptrEqNil rfl Tryz.underlying41 rfl) ?_
  refine WL_val rfl rfl rfl (R_move rfl rfl) ?_
  refine WL_val rfl rfl rfl (R_move rfl rfl) ?_
  refine WL_val rfl rfl rfl (R_nilCheck rfl rfl) ?_
  refine WL_val rfl rfl rfl (R_fieldAddr rfl fa45_2 rfl) ?_
  refine WL_val rfl rfl rfl (R_load rfl sc43 rfl (mmD) rfl) ?_
  refine WL_val rfl rfl rfl (R_len rfl Tryz.underlying43 rfl) ?_
  refine WL_val rfl rfl rfl (R_eql rfl rfl rfl) ?_
  refine WL_set (s := 12) (v := .bool true) rfl (by rw [he]; rfl) ?_
  refine WL_val rfl rfl rfl (R_pickF rfl rfl rfl) ?_
  refine WL_nil ?_
  refine WQ_code ?_
  refine WC_T rfl ?_
  refine WC_seq ?_
  refine WC_region ?_
  refine WL_val rfl rfl rfl (R_build rfl zv59 pl59 rfl rfl) ?_
  refine WL_do0 rfl rfl (D_store (vs := [_, _, _]) rfl Tryz.sizeOf59 rfl rfl rfl rfl rfl (plD) (by exact Nat.le_of_ble_eq_true rfl)) ?_
  rintro _ _ rfl
  refine WL_val rfl rfl rfl (R_assign rfl rfl) ?_
  refine WL_nil ?_
  refine WQ_code ?_
  refine WC_ret ?_
  refine WQ_ret rfl rfl (.cons (.cell (vs := [_, _, _]) rfl ag59 (mmD) rfl (atZ)) (.cons (.tmp rfl) .nil)) rfl (by
      exact ⟨m, x, rfl, h, rfl, rfl, rfl⟩) (pqD)
theorem OwnS.atQ {ob : Option Nat} {k n c : Nat} {pre tl : List Value} {T : List Rq} (h : OwnS ob k n c 3 pre (T.flatMap encRq) tl) {i : Nat} {x : Rq} (hx : T[i]? = some x) (hi : i < n) : At (pre ++ (T.flatMap encRq ++ tl)) (k + i * 3) (encRq x) := fun j v hj => by
  rw [h.get encRq3 hx hi (by have := (List.getElem?_eq_some_iff.1 hj).1; simpa using this)]; exact hj
theorem snext_take {m : SvM} {x : Sv} (h : SvIs m x) (hb : SvB x) (r0 : Rq) (rest : List Rq) (he : x.qu = r0 :: rest) : Spec Tryz.prog 19 [ptrC m.p] (svH m x) (fun r H' => ∃ m' x', m'.p = m.p ∧ SvIs m' x' ∧ x'.v = { x.v with qu := rest.map Rq.v } ∧ r = .tuple #[.agg #[.int .i64 r0.id, .int .u64 (r0.dl : Int), slV r0.o r0.body.length r0.c], .bool true] ∧ H' = svH m' x' ++ [rqE r0]) := by
  have heO := h.eO
  rw [he] at heO
  obtain ⟨wb, hwb⟩ := heO.some_of (Nat.succ_pos _)
  have hlen : x.qu.length = rest.length + 1 := by rw [he]; rfl
  refine Spec.of (E := [(0, ptrC m.p)]) Tryz.func19 rfl (by kernel_rfl) Tryz.ntmps19 rfl rfl (fun w => ?_)
  refine WC_seq ?_
  refine WC_region ?_
  refine WL_do rfl rfl rfl (D_alloc rfl zv59) ?_
  rintro _ _ ⟨b1, rfl, rfl⟩
  refine WL_val rfl rfl rfl (R_assign rfl rfl) ?_
  refine WL_nil ?_
  refine WQ_code ?_
  refine WC_seq ?_
  refine WC_seq ?_
  refine WC_region ?_
  refine WL_val rfl rfl rfl (R_move rfl rfl) ?_
  refine WL_val rfl rfl rfl (R_ptrEqNil rfl Tryz.underlying41 rfl) ?_
  refine WL_val rfl rfl rfl (R_move rfl rfl) ?_
  refine WL_val rfl rfl rfl (R_move rfl rfl) ?_
  refine WL_val rfl rfl rfl (R_nilCheck rfl rfl) ?_
  refine WL_val rfl rfl rfl (R_fieldAddr rfl fa45_2 rfl) ?_
  refine WL_val rfl rfl rfl (R_load rfl sc43 rfl (mmD) rfl) ?_
  refine WL_val rfl rfl rfl (R_len rfl Tryz.underlying43 rfl) ?_
  refine WL_val rfl rfl rfl (R_eql rfl rfl rfl) ?_
  refine WL_set (s := 12) (v := .bool false) rfl (by rw [he]; rfl) ?_
  refine WL_val rfl rfl rfl (R_pickF rfl rfl rfl) ?_
  refine WL_nil ?_
  refine WQ_code ?_
  refine WC_F rfl ?_
  refine WC_skip ?_
  refine WQ_code ?_
  refine WC_seq ?_
  refine WC_drawY [⟨some b1, _⟩, ⟨some m.p, _⟩] [(m.p, 6, sVal m.eb m.ek x.qu.length m.ec)] [15] [(0, false), (1, false), (2, false), (3, false), (4, true), (5, false), (6, false), (7, false), (8, false), (9, false), (10, true)] [(11, true), (12, false), (13, true), (14, true), (15, false)] followsMixed rfl rfl (by kernel_rfl) (pqD) (.cons (mmD) rfl .nil) ?_
  refine WYE_val rfl rfl rfl rfl (R_move rfl rfl) ?_
  refine WYE_val rfl rfl rfl rfl (R_move rfl rfl) ?_
  refine WYE_val rfl rfl rfl rfl (R_nilCheck rfl rfl) ?_
  refine WYE_val rfl rfl rfl rfl (R_fieldAddr rfl fa45_2 rfl) ?_
  refine WYE_early rfl rfl rfl rfl rfl sc43 rfl (by repeat (first | exact List.Mem.head _ | refine List.Mem.tail _ ?_)) ?_
  refine WYE_val rfl rfl rfl rfl (R_indexS (i := 0) hwb rfl Tryz.underlying43 Tryz.sizeOf59 rfl rfl (by omega)) ?_
  refine WYE_val rfl rfl rfl rfl (R_loadAO (vs := [.int .i64 r0.id, .int .u64 (r0.dl : Int), slV r0.o r0.body.length r0.c]) hwb rfl ag59 rfl (mmD) rfl (h.eO.atQ (i := 0) (x := r0) (by rw [he]; rfl) (by omega))) ?_
  refine WYE_val rfl rfl rfl rfl (R_move rfl rfl) ?_
  refine WYE_val rfl rfl rfl rfl (R_nilCheck rfl rfl) ?_
  refine WYE_val rfl rfl rfl rfl (R_fieldAddr rfl fa45_2 rfl) ?_
  refine WYE_early rfl rfl rfl rfl rfl sc43 rfl (by repeat (first | exact List.Mem.head _ | refine List.Mem.tail _ ?_)) ?_
  refine WYE_rest ?_
  refine WY_val rfl rfl rfl rfl (R_cut1 (m := rest.length) hwb rfl Tryz.underlying43 Tryz.sizeOf59 rfl rfl hlen) ?_
  refine WY_do0 rfl rfl rfl (D_store (vs := [_, _, _]) rfl Tryz.sizeOf59 rfl rfl rfl rfl rfl (plD) (by exact Nat.le_of_ble_eq_true rfl)) ?_
  rintro _ _ rfl
  refine ⟨⟨_, pqD⟩, .inr (.cons (mmD) rfl .nil), ?_⟩
  refine WY_val rfl rfl rfl rfl (R_nilCheck rfl rfl) ?_
  refine WY_val rfl rfl rfl rfl (R_fieldAddr rfl fa45_2 rfl) ?_
  refine WY_do0 rfl rfl rfl (D_store (vs := [_]) rfl Tryz.sizeOf43 rfl rfl rfl rfl rfl (plD) (by exact Nat.le_of_ble_eq_true rfl)) ?_
  rintro _ _ rfl
  refine ⟨⟨_, pqD⟩, .inl rfl, ?_⟩
  refine WY_nil ?_
  refine WQ_code ?_
  refine WC_seq ?_
  refine WC_region ?_
  refine WL_val rfl rfl rfl (R_loadA (vs := [_, _, _]) rfl ag59 rfl (mmD) rfl (atZ)) ?_
  refine WL_do0 rfl rfl (D_store (vs := [_, _, _]) rfl Tryz.sizeOf59 rfl rfl rfl rfl rfl (plD) (by exact Nat.le_of_ble_eq_true rfl)) ?_
  rintro _ _ rfl
  refine WL_val rfl rfl rfl (R_assign rfl rfl) ?_
  refine WL_nil ?_
  refine WQ_code ?_
  refine WC_ret ?_
  rw [show svQ m x = (⟨m.eb, cl ((m.epre ++ encRq r0) ++ (rest.flatMap encRq ++ m.etl)) 59⟩ : Ent) from by unfold svQ; rw [he]; simp, show rqH x.qu = rqE r0 :: rqH rest from by rw [he]; rfl]
  refine WQ_ret rfl rfl (.cons (.cell (vs := [_, _, _]) rfl ag59 (mmD) rfl (atZ)) (.cons (.tmp rfl) .nil)) rfl (by
      exact ⟨{ m with ek := if m.ec = 1 then m.ek else m.ek + 3, ec := m.ec - 1, epre := m.epre ++ encRq r0 }, { x with qu := rest }, rfl, ⟨h.sd, h.cO, heO.cut (ys := encRq r0) (zs := rest.flatMap encRq) (m := rest.length) rfl rfl rfl, fun r hr => h.rO r (by rw [he]; exact List.mem_cons_of_mem _ hr)⟩, rfl, rfl, rfl⟩) (pqD)
end Go.Proofs.YtkcfgglmlogjbaaGreat
end
section
set_option linter.unusedVariables false
set_option maxRecDepth 20000
set_option maxHeartbeats 1000000
namespace Go.Proofs.YtkcfgglmlogjbaaGreat
theorem nani_ok (a : Int) : Spec Tryz.prog 79 [.int .i64 a] [] (fun r H' => r = .bool false ∧ H' = []) := by
  refine Spec.of (E := [(0, .int .i64 a)]) Tryz.func79 rfl (by kernel_rfl) Tryz.ntmps79 rfl rfl (fun w => ?_)
  refine WC_seq ?_
  refine WC_region ?_
  refine WL_val rfl rfl rfl (R_assign rfl rfl) ?_
  refine WL_nil ?_
  refine WQ_code ?_
  refine WC_seq ?_
  refine WC_region ?_
  refine WL_val rfl rfl rfl (R_move rfl rfl) ?_
  refine WL_val rfl rfl rfl (R_move rfl rfl) ?_
  refine WL_val rfl rfl rfl (R_neq rfl rfl rfl) ?_
  refine WL_val rfl rfl rfl (R_assign rfl rfl) ?_
  refine WL_nil ?_
  refine WQ_code ?_
  refine WC_ret ?_
  refine WQ_ret rfl rfl (.cons (.tmp rfl) .nil) rfl (by
      exact ⟨congrArg Value.bool (by simp), rfl⟩) (pqY)
theorem nant_ok (a : Int) : Spec Tryz.prog 78 [.int .u64 a] [] (fun r H' => r = .bool false ∧ H' = []) := by
  refine Spec.of (E := [(0, .int .u64 a)]) Tryz.func78 rfl (by kernel_rfl) Tryz.ntmps78 rfl rfl (fun w => ?_)
  refine WC_seq ?_
  refine WC_region ?_
  refine WL_val rfl rfl rfl (R_assign rfl rfl) ?_
  refine WL_nil ?_
  refine WQ_code ?_
  refine WC_seq ?_
  refine WC_region ?_
  refine WL_val rfl rfl rfl (R_move rfl rfl) ?_
  refine WL_val rfl rfl rfl (R_move rfl rfl) ?_
  refine WL_val rfl rfl rfl (R_neq rfl rfl rfl) ?_
  refine WL_val rfl rfl rfl (R_assign rfl rfl) ?_
  refine WL_nil ?_
  refine WQ_code ?_
  refine WC_ret ?_
  refine WQ_ret rfl rfl (.cons (.tmp rfl) .nil) rfl (by
      exact ⟨congrArg Value.bool (by simp), rfl⟩) (pqY)
theorem cmpi_ok (a b : Int) : Spec Tryz.prog 62 [.int .i64 a, .int .i64 b] [] (fun r H' => r = .int .i64 (cmpI a b) ∧ H' = []) := by
  refine Spec.of (E := [(0, .int .i64 a), (1, .int .i64 b)]) Tryz.func62 rfl (by kernel_rfl) Tryz.ntmps62 rfl rfl (fun w => ?_)
  refine WC_seq ?_
  refine WC_region ?_
  refine WL_val rfl rfl rfl (R_assign rfl rfl) ?_
  refine WL_nil ?_
  refine WQ_code ?_
  refine WC_seq ?_
  refine WC_region ?_
  refine WL_val rfl rfl rfl (R_move rfl rfl) ?_
  refine WL_do rfl rfl rfl (D_call (nani_ok _) rfl rfl rfl rfl (pqY)) ?_
  rintro _ _ ⟨_, ⟨rfl, rfl⟩, rfl⟩
  refine WL_val rfl rfl rfl (R_assign rfl rfl) ?_
  refine WL_nil ?_
  refine WQ_code ?_
  refine WC_seq ?_
  refine WC_region ?_
  refine WL_val rfl rfl rfl (R_move rfl rfl) ?_
  refine WL_do rfl rfl rfl (D_call (nani_ok _) rfl rfl rfl rfl (pqY)) ?_
  rintro _ _ ⟨_, ⟨rfl, rfl⟩, rfl⟩
  refine WL_val rfl rfl rfl (R_assign rfl rfl) ?_
  refine WL_nil ?_
  refine WQ_code ?_
  refine WC_seq ?_
  refine WC_seq ?_
  refine WC_region ?_
  refine WL_val rfl rfl rfl (R_move rfl rfl) ?_
  refine WL_nil ?_
  refine WQ_code ?_
  refine WC_F rfl ?_
  refine WC_skip ?_
  refine WQ_code ?_
  refine WC_seq ?_
  refine WC_seq ?_
  refine WC_region ?_
  refine WL_val rfl rfl rfl (R_move rfl rfl) ?_
  refine WL_nil ?_
  refine WQ_code ?_
  refine WC_F rfl ?_
  refine WC_skip ?_
  refine WQ_code ?_
  refine WC_seq ?_
  refine WC_seq ?_
  refine WC_region ?_
  refine WL_val rfl rfl rfl (R_move rfl rfl) ?_
  refine WL_val rfl rfl rfl (R_move rfl rfl) ?_
  refine WL_val rfl rfl rfl (R_lss rfl rfl rfl) ?_
  refine WL_nil ?_
  refine WQ_code ?_
  refine WC_dec rfl (fun c1 => ?_) (fun c1 => ?_)
  · refine WC_seq ?_
    refine WC_region ?_
    refine WL_val rfl rfl rfl (R_assign rfl rfl) ?_
    refine WL_nil ?_
    refine WQ_code ?_
    refine WC_ret ?_
    refine WQ_ret rfl rfl (.cons (.tmp rfl) .nil) rfl (by
        exact ⟨congrArg (Value.int .i64) (by unfold cmpI; (repeat split) <;> omega), rfl⟩) (pqY)
  · refine WC_skip ?_
    refine WQ_code ?_
    refine WC_seq ?_
    refine WC_seq ?_
    refine WC_region ?_
    refine WL_val rfl rfl rfl (R_move rfl rfl) ?_
    refine WL_val rfl rfl rfl (R_move rfl rfl) ?_
    refine WL_val rfl rfl rfl (R_gtr rfl rfl rfl) ?_
    refine WL_nil ?_
    refine WQ_code ?_
    refine WC_dec rfl (fun c2 => ?_) (fun c2 => ?_)
    · refine WC_seq ?_
      refine WC_region ?_
      refine WL_val rfl rfl rfl (R_assign rfl rfl) ?_
      refine WL_nil ?_
      refine WQ_code ?_
      refine WC_ret ?_
      refine WQ_ret rfl rfl (.cons (.tmp rfl) .nil) rfl (by
          exact ⟨congrArg (Value.int .i64) (by unfold cmpI; (repeat split) <;> omega), rfl⟩) (pqY)
    · refine WC_skip ?_
      refine WQ_code ?_
      refine WC_seq ?_
      refine WC_region ?_
      refine WL_val rfl rfl rfl (R_assign rfl rfl) ?_
      refine WL_nil ?_
      refine WQ_code ?_
      refine WC_ret ?_
      refine WQ_ret rfl rfl (.cons (.tmp rfl) .nil) rfl (by
          exact ⟨congrArg (Value.int .i64) (by unfold cmpI; (repeat split) <;> omega), rfl⟩) (pqY)
theorem cmpt_ok (a b : Int) : Spec Tryz.prog 61 [.int .u64 a, .int .u64 b] [] (fun r H' => r = .int .i64 (cmpI a b) ∧ H' = []) := by
  refine Spec.of (E := [(0, .int .u64 a), (1, .int .u64 b)]) Tryz.func61 rfl (by kernel_rfl) Tryz.ntmps61 rfl rfl (fun w => ?_)
  refine WC_seq ?_
  refine WC_region ?_
  refine WL_val rfl rfl rfl (R_assign rfl rfl) ?_
  refine WL_nil ?_
  refine WQ_code ?_
  refine WC_seq ?_
  refine WC_region ?_
  refine WL_val rfl rfl rfl (R_move rfl rfl) ?_
  refine WL_do rfl rfl rfl (D_call (nant_ok _) rfl rfl rfl rfl (pqY)) ?_
  rintro _ _ ⟨_, ⟨rfl, rfl⟩, rfl⟩
  refine WL_val rfl rfl rfl (R_assign rfl rfl) ?_
  refine WL_nil ?_
  refine WQ_code ?_
  refine WC_seq ?_
  refine WC_region ?_
  refine WL_val rfl rfl rfl (R_move rfl rfl) ?_
  refine WL_do rfl rfl rfl (D_call (nant_ok _) rfl rfl rfl rfl (pqY)) ?_
  rintro _ _ ⟨_, ⟨rfl, rfl⟩, rfl⟩
  refine WL_val rfl rfl rfl (R_assign rfl rfl) ?_
  refine WL_nil ?_
  refine WQ_code ?_
  refine WC_seq ?_
  refine WC_seq ?_
  refine WC_region ?_
  refine WL_val rfl rfl rfl (R_move rfl rfl) ?_
  refine WL_nil ?_
  refine WQ_code ?_
  refine WC_F rfl ?_
  refine WC_skip ?_
  refine WQ_code ?_
  refine WC_seq ?_
  refine WC_seq ?_
  refine WC_region ?_
  refine WL_val rfl rfl rfl (R_move rfl rfl) ?_
  refine WL_nil ?_
  refine WQ_code ?_
  refine WC_F rfl ?_
  refine WC_skip ?_
  refine WQ_code ?_
  refine WC_seq ?_
  refine WC_seq ?_
  refine WC_region ?_
  refine WL_val rfl rfl rfl (R_move rfl rfl) ?_
  refine WL_val rfl rfl rfl (R_move rfl rfl) ?_
  refine WL_val rfl rfl rfl (R_lss rfl rfl rfl) ?_
  refine WL_nil ?_
  refine WQ_code ?_
  refine WC_dec rfl (fun c1 => ?_) (fun c1 => ?_)
  · refine WC_seq ?_
    refine WC_region ?_
    refine WL_val rfl rfl rfl (R_assign rfl rfl) ?_
    refine WL_nil ?_
    refine WQ_code ?_
    refine WC_ret ?_
    refine WQ_ret rfl rfl (.cons (.tmp rfl) .nil) rfl (by
        exact ⟨congrArg (Value.int .i64) (by unfold cmpI; (repeat split) <;> omega), rfl⟩) (pqY)
  · refine WC_skip ?_
    refine WQ_code ?_
    refine WC_seq ?_
    refine WC_seq ?_
    refine WC_region ?_
    refine WL_val rfl rfl rfl (R_move rfl rfl) ?_
    refine WL_val rfl rfl rfl (R_move rfl rfl) ?_
    refine WL_val rfl rfl rfl (R_gtr rfl rfl rfl) ?_
    refine WL_nil ?_
    refine WQ_code ?_
    refine WC_dec rfl (fun c2 => ?_) (fun c2 => ?_)
    · refine WC_seq ?_
      refine WC_region ?_
      refine WL_val rfl rfl rfl (R_assign rfl rfl) ?_
      refine WL_nil ?_
      refine WQ_code ?_
      refine WC_ret ?_
      refine WQ_ret rfl rfl (.cons (.tmp rfl) .nil) rfl (by
          exact ⟨congrArg (Value.int .i64) (by unfold cmpI; (repeat split) <;> omega), rfl⟩) (pqY)
    · refine WC_skip ?_
      refine WQ_code ?_
      refine WC_seq ?_
      refine WC_region ?_
      refine WL_val rfl rfl rfl (R_assign rfl rfl) ?_
      refine WL_nil ?_
      refine WQ_code ?_
      refine WC_ret ?_
      refine WQ_ret rfl rfl (.cons (.tmp rfl) .nil) rfl (by
          exact ⟨congrArg (Value.int .i64) (by unfold cmpI; (repeat split) <;> omega), rfl⟩) (pqY)
theorem cor_ok (l : List Int) (hl : l.length ≤ 100) (o : Option Nat) (c : Nat) (tl : List Value) (own : Own o l.length c 1 (ivs l) tl) : Spec Tryz.prog 60 [slV o l.length c] [⟨o, cl (ivs l ++ tl) 3⟩] (fun r H' => r = .int .i64 (orL l) ∧ H' = [⟨o, cl (ivs l ++ tl) 3⟩]) := by
  refine Spec.of (E := [(0, slV o l.length c)]) Tryz.func60 rfl (by kernel_rfl) Tryz.ntmps60 rfl rfl (fun w => ?_)
  refine WC_seq ?_
  refine WC_region ?_
  refine WL_val rfl rfl rfl (R_assign rfl rfl) ?_
  refine WL_nil ?_
  refine WQ_code ?_
  refine WC_seq ?_
  refine WC_region ?_
  refine WL_val rfl rfl rfl (R_assign rfl rfl) ?_
  refine WL_nil ?_
  refine WQ_code ?_
  refine WC_seq ?_
  refine WC_seq ?_
  refine WC_region ?_
  refine WL_val rfl rfl rfl (R_move rfl rfl) ?_
  refine WL_val rfl rfl rfl (R_len rfl Tryz.underlying42 rfl) ?_
  refine WL_val rfl rfl rfl (R_move rfl rfl) ?_
  refine WL_nil ?_
  refine WQ_code ?_
  refine WC_block ?_
  refine WC_loopF (G := Nat) [2, 5, 8, 9, 10, 11, 12, 13, 14, 15, 16] (fun k => k ≤ l.length ∧ ∀ v ∈ l.take k, v = 0) (fun k => [(8, .int .i64 (k : Int))]) (fun k => []) (fun k => l.length - k) (0) (⟨Nat.zero_le _, by simp⟩) leZ (pqY) ?_
  rintro k ⟨hk, hz⟩
  refine WC_seq ?_
  refine WC_region ?_
  refine WL_val rfl rfl rfl (R_lss rfl rfl rfl) ?_
  refine WL_nil ?_
  refine WQ_code ?_
  refine WC_seq ?_
  refine WC_dec rfl (fun c1 => ?_) (fun c1 => ?_)
  · refine WC_skip ?_
    refine WQ_code ?_
    refine WC_seq ?_
    refine WC_block ?_
    refine WC_seq ?_
    refine WC_region ?_
    obtain ⟨x, hx⟩ := getE (T := l) (i := k) (by omega)
    obtain ⟨wa, hwa⟩ := own.some_of (by omega)
    refine WL_val rfl rfl rfl (R_idxO hwa rfl Tryz.underlying42 Tryz.sizeOf3 rfl rfl (by omega)) ?_
    refine WL_val rfl rfl rfl (R_loadO (v := .int .i64 x) hwa rfl sc3 rfl (mmY) (fm_get0 encI1 hx (j := 0) (by omega))) ?_
    refine WL_val rfl rfl rfl (R_assign rfl rfl) ?_
    refine WL_nil ?_
    refine WQ_code ?_
    refine WC_seq ?_
    refine WC_region ?_
    refine WL_val rfl rfl rfl (R_move rfl rfl) ?_
    refine WL_val rfl rfl rfl (R_move rfl rfl) ?_
    refine WL_val rfl rfl rfl (R_neq rfl rfl rfl) ?_
    refine WL_nil ?_
    refine WQ_code ?_
    refine WC_dec rfl (fun c2 => ?_) (fun c2 => ?_)
    · have hc := c2
      refine WC_seq ?_
      refine WC_region ?_
      refine WL_val rfl rfl rfl (R_move rfl rfl) ?_
      refine WL_val rfl rfl rfl (R_assign rfl rfl) ?_
      refine WL_nil ?_
      refine WQ_code ?_
      refine WC_ret ?_
      refine WQ_ret rfl rfl (.cons (.tmp rfl) .nil) rfl (by
          exact ⟨congrArg (Value.int .i64) (orL_hit hz hx hc).symm, rfl⟩) (pqY)
    · have hc := c2
      refine WC_skip ?_
      refine WQ_code ?_
      refine WC_region ?_
      refine WL_val rfl rfl rfl (R_add rfl rfl rfl (by omega)) ?_
      refine WL_val rfl rfl rfl (R_move rfl rfl) ?_
      refine WL_nil ?_
      refine WQ_nextF (k + 1) (⟨by omega, fun v hv => by rw [take_next hx] at hv; rcases List.mem_append.1 hv with hv | hv; exact hz v hv; rw [List.mem_singleton.1 hv]; omega⟩) (by omega) leZ (psZ) rfl (pqY)
  · have hkl : l.length ≤ k := by omega
    refine WC_exit ?_
    refine WQ_code ?_
    refine WC_seq ?_
    refine WC_region ?_
    refine WL_val rfl rfl rfl (R_move rfl rfl) ?_
    refine WL_val rfl rfl rfl (R_assign rfl rfl) ?_
    refine WL_nil ?_
    refine WQ_code ?_
    refine WC_ret ?_
    refine WQ_ret rfl rfl (.cons (.tmp rfl) .nil) rfl (by
        exact ⟨congrArg (Value.int .i64) (orL_none hz hkl).symm, rfl⟩) (pqY)
end Go.Proofs.YtkcfgglmlogjbaaGreat
end
section
namespace Go.Proofs.YtkcfgglmlogjbaaGreat
open Go.Shelf Go.RowKit Go.Lib Go.Sort
/-- A world with the same blocks and new ones behind them. -/
theorem hw_grow {Hc : Heap} {W W' : World} (h : HOK Hc W) (c : HW Hc W Hc W') : ∃ q os', W' = grow (W.drewN q) os' := by
  have hb := HW.belOf h c
  refine ⟨W'.drawn - W.drawn, W'.heap.extract W.heap.size W'.heap.size, ?_⟩
  have hheap : W'.heap = W.heap ++ W'.heap.extract W.heap.size W'.heap.size := by
    apply Array.ext_getElem?
    intro k
    rw [Array.getElem?_append]
    by_cases hk : k < W.heap.size
    · rw [if_pos hk]; exact hb.block k hk
    · rw [if_neg hk, Array.getElem?_extract]
      by_cases h2 : k < W'.heap.size
      · rw [if_pos (by omega)]; congr 1; omega
      · rw [if_neg (by omega), Array.getElem?_eq_none (by omega)]
  have hdr := c.dr
  obtain ⟨hp, tp, dr, os, out⟩ := W'
  obtain ⟨hp0, tp0, dr0, os0, out0⟩ := W
  have e1 := c.os
  have e2 := c.tape
  have e3 := c.output
  dsimp only at e1 e2 e3 hdr hheap
  subst e1 e2 e3
  simp only [grow, World.drewN, World.mk.injEq, true_and, and_true]
  exact ⟨hheap, by omega⟩
section
variable {α : Type} [Inhabited α] {enc : α → Value}
theorem holds_of {w : World} {b : Nat} {e : TypeId} {d : List α} {tl : List Value} (hb : w.heap[b]? = some (cl (d.map enc ++ tl) e)) : Holds enc w b 0 d.toArray := fun j hj => by
  have hj' : j < d.length := by simpa using hj
  have hg : (d.map enc ++ tl)[j]? = some (enc d[j]) := by rw [List.getElem?_append_left (by simpa using hj'), List.getElem?_map, List.getElem?_eq_getElem hj']; rfl
  refine ⟨?_, ?_⟩
  · simp only [World.cell?, hb, cl, Nat.zero_add, List.getElem?_toArray, hg]
    simp [hj']
  · simp [World.frozen?, hb, cl]
theorem sw_hw {Hc : Heap} {w : World} {b : Nat} {e : TypeId} {d d' : List α} {tl : List Value} (hw : HOK (⟨some b, cl (d.map enc ++ tl) e⟩ :: Hc) w) (hl : d'.length = d.length) (m : Nat) (os : Array Obj) :
    HW (⟨some b, cl (d.map enc ++ tl) e⟩ :: Hc) w (⟨some b, cl (d'.map enc ++ tl) e⟩ :: Hc) (sortWorld enc w b 0 m d'.toArray os) := by
  have hb : w.heap[b]? = some (cl (d.map enc ++ tl) e) := by
    have := hw.ok _ (List.mem_cons_self ..)
    simpa [Ent.ok] using this
  have hlt := (Array.getElem?_eq_some_iff.1 hb).1
  have hput : putCells enc 0 d'.toArray (d.map enc ++ tl).toArray = (d'.map enc ++ tl).toArray := by
    apply Array.ext_getElem?
    intro k
    simp only [putCells, Array.getElem?_mapIdx, List.getElem?_toArray]
    by_cases hk : k < d'.length
    · rw [List.getElem?_append_left (by simpa using (by omega : k < d.length)), List.getElem?_append_left (by simpa using hk), List.getElem?_map, List.getElem?_map, List.getElem?_eq_getElem (by omega : k < d.length), List.getElem?_eq_getElem hk]
      simp [hk]
    · rw [List.getElem?_append_right (by simp; omega), List.getElem?_append_right (by simp; omega)]
      simp only [List.length_map, hl]
      cases tl[k - d.length]? with
      | none => rfl
      | some v => simp [hk]
  have hsame : (sortWorld enc w b 0 m d'.toArray os).heap[b]? = some (cl (d'.map enc ++ tl) e) := by
    simp only [sortWorld, grow, putRow, mapBlock, Sort.ahead, Array.getElem?_append, Array.size_modify, hlt, if_true, Array.getElem?_modify, hb, Option.map_some, cl, onCells]
    rw [hput]
  have hother : ∀ k, k < w.heap.size → k ≠ b → (sortWorld enc w b 0 m d'.toArray os).heap[k]? = w.heap[k]? := fun k hk hne => by
    simp only [sortWorld, grow, putRow, mapBlock, Sort.ahead, Array.getElem?_append, Array.size_modify, hk, if_true, Array.getElem?_modify, if_neg (Ne.symm hne)]
  have hnd := hw.nodup
  simp only [keys, List.filterMap_cons, List.nodup_cons] at hnd
  refine ⟨⟨by simp only [keys, List.filterMap_cons, List.nodup_cons]; exact hnd, fun x hx => ?_⟩, rfl, rfl, rfl, ?_, fun k hk hn => ?_, fun k hk => .inl (by simpa [keys] using hk), ?_⟩
  · rcases List.mem_cons.1 hx with rfl | hx2
    · simpa [Ent.ok] using hsame
    · have h1 := hw.ok x (List.mem_cons_of_mem _ hx2)
      cases hxb : x.b with
      | none => simp only [Ent.ok, hxb] at h1 ⊢; exact h1
      | some c =>
        simp only [Ent.ok, hxb] at h1 ⊢
        have hne : c ≠ b := fun e => hnd.1 (by subst e; exact List.mem_filterMap.2 ⟨x, hx2, hxb⟩)
        rw [hother c (Array.getElem?_eq_some_iff.1 h1).1 hne]; exact h1
  · simp [sortWorld, grow, putRow, mapBlock, Sort.ahead]
  · exact hother k hk (fun e => hn (by subst e; simp [keys]))
  · simp [sortWorld, grow, putRow, mapBlock, Sort.ahead]
end
end Go.Proofs.YtkcfgglmlogjbaaGreat
end
section
namespace Go.Proofs.YtkcfgglmlogjbaaGreat
open Go.Shelf Go.RowKit Go.Lib Go.Sort
section
variable {α : Type} [Inhabited α] {enc : α → List Value} {k : Nat}
theorem flat_eq (hk : ∀ x, (enc x).length = k) (d : List α) : flatK enc k d.toArray = (d.flatMap enc).toArray := by
  have hs : (d.flatMap enc).length = d.length * k := fm_length hk d
  apply Array.ext
  · simp [hs]
  · intro t h1 h2
    have ht : t < d.length * k := by simpa using h1
    have k0 : 0 < k := by rcases Nat.eq_zero_or_pos k with h | h; · subst h; simp at ht
                          · exact h
    have hi : t / k < d.length := Nat.div_lt_of_lt_mul (by rw [Nat.mul_comm]; exact ht)
    have hj : t % k < k := Nat.mod_lt t k0
    have hg := get_flatK enc k d.toArray t (by simpa using ht)
    rw [getElem!_pos _ t h1] at hg
    have hx : d[t / k]? = some d[t / k] := List.getElem?_eq_getElem hi
    have hf := fm_get hk hx hj []
    rw [List.append_nil, show t / k * k + t % k = t from by rw [Nat.mul_comm]; exact Nat.div_add_mod t k] at hf
    rw [hg]
    have e1 : d.toArray[t / k]! = d[t / k] := by simp [hi]
    rw [e1, getElem!_pos _ _ (by rw [hk]; exact hj)]
    have h3 : t < (d.flatMap enc).length := by simpa using h2
    rw [List.getElem?_eq_getElem h3, List.getElem?_eq_getElem (by rw [hk]; exact hj)] at hf
    simpa using (Option.some.inj hf).symm
theorem sortK_ok {P : Program} {ρ : Ren} (L : SlLaysF0.n6 P ρ) (f : Nat) (hf : ρ.f 6 = f) (aE : ∀ w, (isAgg (ρ.t 24)).run P w = .ok true w) (zE : ∀ w, (Go.sizeOf (ρ.t 24)).run P w = .ok k w) (hk : ∀ x, (enc x).length = k) (h1 : ∀ x, ∀ v ∈ enc x, v.oneCell' = true)
    (cf : α → α → Int) (hO : SWO (ltOf cf)) (g : Nat) (cb : List Value) (Hc : Heap) (hcmp : ∀ x y, Spec P g ([.agg (enc x).toArray, .agg (enc y).toArray] ++ cb) Hc (fun r H' => r = .int .i64 (cf x y) ∧ H' = Hc)) (hen : Enters P f)
    (b n c : Nat) (e : TypeId) (d : List α) (tl : List Value) (hn : d.length = n) (hsz : n < 4611686018427387904) :
    Spec P f [slV (some b) n c, .func (.func g) #[] cb.toArray] (⟨some b, cl (d.flatMap enc ++ tl) e⟩ :: Hc)
      (fun r H' => ∃ d' : List α, r = .tuple #[] ∧ d'.Perm d ∧ d'.Pairwise (fun x y => ltOf cf y x = false) ∧ H' = ⟨some b, cl (d'.flatMap enc ++ tl) e⟩ :: Hc) := by
  subst hf hn
  refine ⟨hen, fun w hw => callsIn_wide.2 ?_⟩
  have hb : w.heap[b]? = some (cl (d.flatMap enc ++ tl) e) := by
    have := hw.ok _ (List.mem_cons_self ..)
    simpa [Ent.ok] using this
  have hlt := (Array.getElem?_eq_some_iff.1 hb).1
  have hsw : ∀ (m : Nat) (os : Array Obj) (dk : List α), dk.length = d.length → HW (⟨some b, cl (d.flatMap enc ++ tl) e⟩ :: Hc) w (⟨some b, cl (dk.flatMap enc ++ tl) e⟩ :: Hc) (sortWorldK enc k w b 0 m dk.toArray os) := fun m os dk hdk => by
    have hw' : HOK (⟨some b, cl ((d.flatMap enc).map id ++ tl) e⟩ :: Hc) w := by rw [List.map_id]; exact hw
    have := sw_hw (enc := id) (d := d.flatMap enc) (d' := dk.flatMap enc) (tl := tl) hw' (by rw [fm_length hk, fm_length hk, hdk]) m os
    rw [List.map_id, List.map_id, ← flat_eq hk dk] at this
    exact this
  have hc : CmpLays P g cb.toArray enc k cf b 0 d.toArray.size w := fun m os dk hdk x y => by
    have hw2 := hsw m os dk.toList (by simpa using hdk)
    simp only [Array.toArray_toList] at hw2
    have hok : HOK Hc (sortWorldK enc k w b 0 m dk os) := (hw2.perm (by simpa using (List.perm_append_comm (l₁ := [_]) (l₂ := Hc)))).left.hok
    have := callsIn_wide.1 ((hcmp x y).calls _ hok)
    rw [show ((#[Value.agg (enc x).toArray, Value.agg (enc y).toArray] : Array Value) ++ cb.toArray) = ([Value.agg (enc x).toArray, Value.agg (enc y).toArray] ++ cb).toArray from by simp]
    refine this.mono fun e w' ⟨v, H', e1, ⟨e2, e3⟩, e4⟩ => ⟨by rw [e1, e2], ?_⟩
    subst e3
    exact hw_grow hok e4
  have hH : HoldsK enc k w b 0 d.toArray := by
    unfold HoldsK
    rw [flat_eq hk]
    exact holds_of (enc := id) (by rw [List.map_id]; exact hb)
  have := AnyQ.slices_SortFunc L k aE zE enc hk h1 cf hO g cb.toArray b 0 c d.toArray w (hcmp default default).enters hc hH hlt (by simpa using hsz)
  refine this.mono fun e w' ⟨he, d', m, os, hp, hs, hwe⟩ => ?_
  obtain ⟨hs1, _, hp2⟩ := hp
  have hsz2 : d'.size = d.length := by simpa using hs1
  refine ⟨_, _, he, ⟨d'.toList, rfl, ?_, ?_, rfl⟩, ?_⟩
  · have e1 : d'.extract 0 d.toArray.size = d' := by simp [← hsz2]
    have e2 : d.toArray.extract 0 d.toArray.size = d.toArray := by simp
    rw [e1, e2] at hp2
    simpa using hp2
  · rw [List.pairwise_iff_getElem]
    intro i j hi hj hij
    have := hs i j (Nat.zero_le _) hij (by simpa [hsz2] using hj)
    have hi' : i < d'.size := by simpa using hi
    have hj' : j < d'.size := by simpa using hj
    simpa [hi', hj'] using this
  · rw [hwe]
    have := hsw m os d'.toList (by simpa using hsz2)
    simpa only [Array.toArray_toList] using this
end
theorem sort_none {P : Program} {ρ : Ren} (L : SlLaysF0.n6 P ρ) (f : Nat) (hf : ρ.f 6 = f) (hen : Enters P f) (ob : Option Nat) (c : Nat) (fv : Value) : Spec P f [slV ob 0 c, fv] [] (fun r H' => r = .tuple #[] ∧ H' = []) := by
  subst hf
  refine ⟨hen, fun w hw => callsIn_wide.2 ?_⟩
  have h : ∀ p, Calls P (ρ.f 6) #[.slice p 0 c, fv] w fun e w' => e = .returned (.tuple #[]) ∧ w' = w := fun p => AnyF.slices_SortFunc_none L p c fv w
  cases ob with
  | none => exact (h none).mono fun e w' ⟨e1, e2⟩ => ⟨_, _, e1, ⟨rfl, rfl⟩, by rw [e2]; exact HW.start hw⟩
  | some b => exact (h (some ⟨b, 0, none⟩)).mono fun e w' ⟨e1, e2⟩ => ⟨_, _, e1, ⟨rfl, rfl⟩, by rw [e2]; exact HW.start hw⟩
end Go.Proofs.YtkcfgglmlogjbaaGreat
end
section
set_option linter.unusedVariables false
set_option maxRecDepth 20000
namespace Go.Proofs.YtkcfgglmlogjbaaGreat
open Go.Shelf
def lysC_ren : Go.Shelf.Ren := ⟨fun | 6 => 58 | 14 => 76 | 15 => 77 | 20 => 87 | 21 => 88 | 22 => 89 | 23 => 90 | 24 => 91 | 25 => 92 | 26 => 93 | 27 => 94 | 28 => 95 | 29 => 96 | 46 => 99 | 47 => 100 | 48 => 101 | 49 => 102 | 50 => 103 | 57 => 104 | n => n, fun | 0 => 0 | 3 => 3 | 4 => 4 | 5 => 5 | 9 => 9 | 22 => 37 | 24 => 76 | 25 => 113 | 39 => 114 | 45 => 135 | 46 => 136 | 50 => 140 | 53 => 143 | 55 => 35 | 66 => 146 | 70 => 150 | 76 => 152 | 77 => 153 | n => n, fun n => n⟩
theorem lysC : SlLaysF0.n6 Tryz.prog lysC_ren := {
  mixed := by kernel_rfl,
  f6 := ⟨Tryz.f58.name, by decide, Tryz.func58.trans (congrArg some (by kernel_rfl))⟩,
  f14 := ⟨Tryz.f76.name, by decide, Tryz.func76.trans (congrArg some (by kernel_rfl))⟩,
  f15 := Tryz.func77.trans (congrArg some (by kernel_rfl)),
  f20 := ⟨Tryz.f87.name, by decide, Tryz.func87.trans (congrArg some (by kernel_rfl))⟩,
  f21 := ⟨Tryz.f88.name, by decide, Tryz.func88.trans (congrArg some (by kernel_rfl))⟩,
  f22 := ⟨Tryz.f89.name, by decide, Tryz.func89.trans (congrArg some (by kernel_rfl))⟩,
  f23 := ⟨Tryz.f90.name, by decide, Tryz.func90.trans (congrArg some (by kernel_rfl))⟩,
  f24 := ⟨Tryz.f91.name, by decide, Tryz.func91.trans (congrArg some (by kernel_rfl))⟩,
  f25 := ⟨Tryz.f92.name, by decide, Tryz.func92.trans (congrArg some (by kernel_rfl))⟩,
  f26 := ⟨Tryz.f93.name, by decide, Tryz.func93.trans (congrArg some (by kernel_rfl))⟩,
  f27 := ⟨Tryz.f94.name, by decide, Tryz.func94.trans (congrArg some (by kernel_rfl))⟩,
  f28 := Tryz.func95.trans (congrArg some (by kernel_rfl)),
  f29 := Tryz.func96.trans (congrArg some (by kernel_rfl)),
  f46 := ⟨Tryz.f99.name, by decide, Tryz.func99.trans (congrArg some (by kernel_rfl))⟩,
  f47 := Tryz.func100.trans (congrArg some (by kernel_rfl)),
  f48 := Tryz.func101.trans (congrArg some (by kernel_rfl)),
  f49 := ⟨Tryz.f102.name, by decide, Tryz.func102.trans (congrArg some (by kernel_rfl))⟩,
  f50 := ⟨Tryz.f103.name, by decide, Tryz.func103.trans (congrArg some (by kernel_rfl))⟩,
  f57 := ⟨Tryz.f104.name, by decide, Tryz.func104.trans (congrArg some (by kernel_rfl))⟩,
  t0 := Tryz.underlying0,
  a0 := Tryz.isAgg0,
  z0 := Tryz.sizeOf0,
  v0 := Tryz.zeroValue0,
  t3 := Tryz.underlying3,
  a3 := Tryz.isAgg3,
  z3 := Tryz.sizeOf3,
  v3 := Tryz.zeroValue3,
  t4 := Tryz.underlying4,
  a4 := Tryz.isAgg4,
  z4 := Tryz.sizeOf4,
  v4 := Tryz.zeroValue4,
  t5 := Tryz.underlying5,
  a5 := Tryz.isAgg5,
  z5 := Tryz.sizeOf5,
  v5 := Tryz.zeroValue5,
  t9 := Tryz.underlying9,
  a9 := Tryz.isAgg9,
  z9 := Tryz.sizeOf9,
  v9 := Tryz.zeroValue9,
  t22 := Tryz.underlying37,
  a22 := Tryz.isAgg37,
  z22 := Tryz.sizeOf37,
  v22 := Tryz.zeroValue37,
  t25 := Tryz.underlying113,
  a25 := Tryz.isAgg113,
  z25 := Tryz.sizeOf113,
  v25 := Tryz.zeroValue113,
  t39 := Tryz.underlying114,
  a39 := Tryz.isAgg114,
  z39 := Tryz.sizeOf114,
  v39 := Tryz.zeroValue114,
  t45 := Tryz.underlying135,
  a45 := Tryz.isAgg135,
  z45 := Tryz.sizeOf135,
  v45 := Tryz.zeroValue135,
  t46 := Tryz.underlying136,
  a46 := Tryz.isAgg136,
  z46 := Tryz.sizeOf136,
  v46 := Tryz.zeroValue136,
  t50 := Tryz.underlying140,
  a50 := Tryz.isAgg140,
  z50 := Tryz.sizeOf140,
  v50 := Tryz.zeroValue140,
  t53 := Tryz.underlying143,
  a53 := Tryz.isAgg143,
  z53 := Tryz.sizeOf143,
  v53 := Tryz.zeroValue143,
  t55 := Tryz.underlying35,
  a55 := Tryz.isAgg35,
  z55 := Tryz.sizeOf35,
  v55 := Tryz.zeroValue35,
  t66 := Tryz.underlying146,
  a66 := Tryz.isAgg146,
  z66 := Tryz.sizeOf146,
  v66 := Tryz.zeroValue146,
  t70 := Tryz.underlying150,
  a70 := Tryz.isAgg150,
  z70 := Tryz.sizeOf150,
  v70 := Tryz.zeroValue150,
  t76 := Tryz.underlying152,
  a76 := Tryz.isAgg152,
  z76 := Tryz.sizeOf152,
  v76 := Tryz.zeroValue152,
  t77 := Tryz.underlying153,
  a77 := Tryz.isAgg153,
  z77 := Tryz.sizeOf153,
  v77 := Tryz.zeroValue153 }
end Go.Proofs.YtkcfgglmlogjbaaGreat
end
section
set_option linter.unusedVariables false
set_option maxRecDepth 20000
set_option maxHeartbeats 2000000
namespace Go.Proofs.YtkcfgglmlogjbaaGreat
open Go.Shelf Go.RowKit Go.Lib Go.Sort
def cmpCa (a b : Ca) : Int := orL [cmpI (a.dl : Int) (b.dl : Int), cmpI (a.id : Int) (b.id : Int)]
theorem own_lit2 (o : Nat) (a b : Int) : Own (some o) 2 2 1 (ivs [a, b]) [] := ⟨rfl, rfl, Nat.le_refl _, by decide, fun e => by cases e⟩
theorem ccmp_ok (a b : Ca) : Spec Tryz.prog 59 [caV a, caV b] [] (fun r H' => r = .int .i64 (cmpCa a b) ∧ H' = []) := by
  refine Spec.of (E := [(0, caV a), (1, caV b)]) Tryz.func59 rfl (by kernel_rfl) Tryz.ntmps59 rfl rfl (fun w => ?_)
  refine WC_seq ?_
  refine WC_region ?_
  refine WL_do rfl rfl rfl (D_box (cs := [_, _]) rfl rfl rfl) ?_
  rintro _ _ ⟨b1, rfl, rfl⟩
  refine WL_do rfl rfl rfl (D_box (cs := [_, _]) rfl rfl rfl) ?_
  rintro _ _ ⟨b2, rfl, rfl⟩
  refine WL_val rfl rfl rfl (R_assign rfl rfl) ?_
  refine WL_nil ?_
  refine WQ_code ?_
  refine WC_seq ?_
  refine WC_draw _ [(0, true), (1, true), (2, true), (3, true), (4, true), (5, true), (6, true), (7, true), (8, true), (9, true), (10, false), (11, false), (12, true)] followsMixed rfl rfl (by kernel_rfl) .all ?_
  refine WM_val rfl rfl rfl rfl (R_fieldAddr rfl fa76_1 rfl) ?_
  refine WM_val rfl rfl rfl rfl (R_load rfl sc36 rfl (mmY) rfl) ?_
  refine WM_val rfl rfl rfl rfl (R_fieldAddr rfl fa76_1 rfl) ?_
  refine WM_val rfl rfl rfl rfl (R_load rfl sc36 rfl (mmY) rfl) ?_
  refine WM_call rfl (Spec.quiet (cmpt_ok _ _)) rfl rfl rfl rfl rfl rfl rfl (pqY) ?_
  refine WM_val rfl rfl rfl rfl (R_fieldAddr rfl fa76_0 rfl) ?_
  refine WM_val rfl rfl rfl rfl (R_load rfl sc3 rfl (mmY) rfl) ?_
  refine WM_val rfl rfl rfl rfl (R_fieldAddr rfl fa76_0 rfl) ?_
  refine WM_val rfl rfl rfl rfl (R_load rfl sc3 rfl (mmY) rfl) ?_
  refine WM_call rfl (Spec.quiet (cmpi_ok _ _)) rfl rfl rfl rfl rfl rfl rfl (pqY) ?_
  refine WM_do rfl rfl rfl rfl (D_buildSlice rfl si42 rfl rfl rfl) ?_
  rintro _ _ ⟨b3, rfl, rfl⟩
  refine ⟨⟨_, pqY⟩, ?_⟩
  refine WM_do rfl rfl rfl rfl (D_call (cor_ok [cmpI (a.dl : Int) (b.dl : Int), cmpI (a.id : Int) (b.id : Int)] (Nat.le_of_ble_eq_true rfl) _ _ [] (own_lit2 _ _ _)) rfl rfl rfl rfl (pqY)) ?_
  rintro _ _ ⟨_, ⟨rfl, rfl⟩, rfl⟩
  refine ⟨⟨_, pqY⟩, ?_⟩
  refine WM_val rfl rfl rfl rfl (R_assign rfl rfl) ?_
  refine WM_nil ?_
  refine WQ_code ?_
  refine WC_ret ?_
  refine WQ_ret rfl rfl (.cons (.tmp rfl) .nil) rfl (by
      exact ⟨rfl, rfl⟩) (pqY)
theorem cmpCa_lt (a b : Ca) : cmpCa a b < 0 ↔ caLt a b := by
  unfold cmpCa orL orL orL cmpI caLt
  repeat' split
  all_goals omega
theorem cmpCa_swo : Go.Sort.SWO (ltOf cmpCa) := by
  refine ⟨fun x => ?_, fun x y z h1 h2 => ?_, fun x y z h1 h2 => ?_⟩
  · simp only [ltOf, decide_eq_false_iff_not, cmpCa_lt]; unfold caLt; omega
  · simp only [ltOf, decide_eq_true_eq, cmpCa_lt] at *; exact caLt_tr h1 h2
  · simp only [ltOf, decide_eq_false_iff_not, cmpCa_lt] at *
    unfold caLt at *; omega
theorem csort_ok : CSortOk := by
  intro l hl ob c tl own
  haveI : Inhabited Ca := ⟨⟨0, 0⟩⟩
  cases ob with
  | none =>
    obtain ⟨h0, rfl, h2, rfl⟩ := own.void'
    have hl0 : l = [] := List.eq_nil_of_length_eq_zero h0
    subst hl0
    refine (fr_app (sort_none lysC 58 rfl (Enters.mk Tryz.func58 rfl rfl) none 0 (.func (.func 59) #[] #[])) [⟨none, cl [] 76⟩]).mono fun r H' ⟨H1, ⟨e1, e2⟩, e3⟩ => ⟨[], e1, .refl _, .nil, ?_⟩
    subst e2; exact e3
  | some b =>
    refine (sortK_ok (enc := encC) (k := 2) lysC 58 rfl (fun w => (ag76 w).1) (fun w => (ag76 w).2) encC2 (fun x v hv => ?_) cmpCa cmpCa_swo 59 [] [] (fun x y => ccmp_ok x y) (Enters.mk Tryz.func58 rfl rfl) b l.length c 76 l tl rfl (by omega)).mono fun r H' ⟨d', e1, e2, e3, e4⟩ => ⟨d', e1, e2, ?_, e4⟩
    · simp only [encC, List.mem_cons, List.not_mem_nil, or_false] at hv
      rcases hv with rfl | rfl <;> rfl
    · refine e3.imp fun {a b} h => ?_
      simpa only [ltOf, decide_eq_false_iff_not, cmpCa_lt] using h
end Go.Proofs.YtkcfgglmlogjbaaGreat
end
section
set_option linter.unusedVariables false
set_option maxRecDepth 20000
set_option maxHeartbeats 2000000
namespace Go.Proofs.YtkcfgglmlogjbaaGreat
theorem pp1 (a b c d e : Ent) (F : Heap) : (a :: b :: c :: d :: e :: F : Heap).Perm ([e, c, d, b, a] ++ [] ++ F) := by
  have h1 : (a :: b :: c :: d :: e :: F : Heap) = [a, b, c, d, e] ++ F := rfl
  have h2 : ([e, c, d, b, a] ++ [] ++ F : Heap) = [e, c, d, b, a] ++ F := rfl
  rw [h1, h2]
  refine List.Perm.append_right F ?_
  exact ((List.reverse_perm [a, b, c, d, e]).symm.trans (.cons _ (.swap ..)))
def cH (g : CG) : Heap := clH g.m g.x
def sH (g : SG) : Heap := svH g.m g.x
structure CGd (g : CG) (p : Nat) (v : PC) : Prop where
  is : ClIs g.m g.x
  p : g.m.p = p
  v : g.x.v = v
structure SGd (g : SG) (p : Nat) (v : PV) : Prop where
  is : SvIs g.m g.x
  p : g.m.p = p
  v : g.x.v = v
section
variable {g : CG} {p : Nat} {v : PC} (hg : CGd g p v) (hb : PCB v)
include hg hb
theorem k_call {body : Bs} {oa : Option Addr} {ent : Ent} {c : Nat} (hr : RdB oa ent body) (dl : Nat) (hdl : dl ≤ 18446744073709551615) : Spec Tryz.prog 10 [ptrC p, .slice oa body.length c, .int .u64 (dl : Int)] (cH g ++ [ent]) (fun r H' => ∃ g', CGd g' p (v.call body dl).1 ∧ r = .tuple #[.int .i64 (v.call body dl).2.1, .int .i64 (v.call body dl).2.2] ∧ H' = cH g' ++ [ent]) := by
  obtain ⟨h, rfl, rfl⟩ := hg
  exact (call_ok h hb.cl hr dl hdl).mono (by rintro r H' ⟨m', x', e1, e2, e3, e4, e5⟩; exact ⟨⟨m', x'⟩, ⟨e2, e1, e3⟩, e4, e5⟩)
theorem k_recv {l : Bs} {oa : Option Addr} {ent : Ent} {c0 : Nat} (hr : RdB oa ent l) (hl : l.length ≤ 65536) : Spec Tryz.prog 18 [ptrC p, .slice oa l.length c0] (cH g ++ [ent]) (fun r H' => ∃ g', CGd g' p (v.recv l).1 ∧ r = .int .i64 (v.recv l).2 ∧ H' = cH g' ++ [ent]) := by
  obtain ⟨h, rfl, rfl⟩ := hg
  exact (recv_ok csort_ok h hb.cl hr hl).mono (by rintro r H' ⟨m', x', e1, e2, e3, e4, e5⟩; exact ⟨⟨m', x'⟩, ⟨e2, e1, e3⟩, e4, e5⟩)
theorem k_next0 (he : v.res = []) : Spec Tryz.prog 21 [ptrC p] (cH g) (fun r H' => ∃ g', CGd g' p v ∧ r = .tuple #[.agg #[.int .i64 0, .int .i64 0, .slice none 0 0], .bool false] ∧ H' = cH g') := by
  obtain ⟨h, rfl, rfl⟩ := hg
  exact (next_empty h hb.cl (by simpa [Cl.v] using he)).mono (by rintro r H' ⟨m', x', e1, e2, e3, e4, e5⟩; exact ⟨⟨m', x'⟩, ⟨e2, e1, e3⟩, e4, e5⟩)
theorem k_next1 {rr : Res} {rest : List Res} (he : v.res = rr :: rest) : Spec Tryz.prog 21 [ptrC p] (cH g) (fun r H' => ∃ g' o c tl, CGd g' p { v with res := rest } ∧ Own o rr.body.length c 1 (bvs rr.body) tl ∧ r = .tuple #[.agg #[.int .i64 rr.id, .int .i64 rr.code, slV o rr.body.length c], .bool true] ∧ H' = cH g' ++ [⟨o, cl (bvs rr.body ++ tl) 5⟩]) := by
  obtain ⟨h, rfl, rfl⟩ := hg
  have he : g.x.res.map Rs.v = rr :: rest := he
  obtain ⟨r0, rs, e0, e1, e2⟩ := List.map_eq_cons_iff.1 he
  subst e1; subst e2
  exact (next_take h hb.cl r0 rs e0).mono (by rintro r H' ⟨m', x', e1, e2, e3, e4, e5⟩; exact ⟨⟨m', x'⟩, r0.o, r0.c, r0.tl, ⟨e2, e1, e3⟩, h.rO r0 (by rw [e0]; exact List.mem_cons_self ..), e4, e5⟩)
theorem k_out1 (n : Nat) (hn : n ≤ 65536) : Spec Tryz.prog 13 [ptrC p, .int .i64 (n : Int)] (cH g) (fun r H' => ∃ g' o c tl, CGd g' p { v with out := v.out.drop n } ∧ Own o (v.out.take n).length c 1 (bvs (v.out.take n)) tl ∧ r = .tuple #[slV o (v.out.take n).length c, .int .i64 0] ∧ H' = cH g' ++ [⟨o, cl (bvs (v.out.take n) ++ tl) 5⟩]) := by
  obtain ⟨h, rfl, rfl⟩ := hg
  exact (out_do h hb.cl n hn).mono (by rintro r H' ⟨o, c2, tl2, m', x', e1, e2, e3, e4, e5, e6⟩; exact ⟨⟨m', x'⟩, o, c2, tl2, ⟨e2, e1, e3⟩, e5, e4, e6⟩)
theorem k_open : Spec Tryz.prog 11 [ptrC p] (cH g) (fun r H' => ∃ o c tl, r = slV o (v.calls.map fun c => (c.id : Int)).length c ∧ Own o (v.calls.map fun c => (c.id : Int)).length c 1 (ivs (v.calls.map fun c => (c.id : Int))) tl ∧ H' = cH g ++ [⟨o, cl (ivs (v.calls.map fun c => (c.id : Int)) ++ tl) 3⟩]) := by
  obtain ⟨h, rfl, rfl⟩ := hg
  exact open_ok h hb.cl
end
section
variable {g : SG} {p : Nat} {v : PV} (hg : SGd g p v) (hb : PVB v)
include hg hb
theorem s_recv {l : Bs} {oa : Option Addr} {ent : Ent} {c0 : Nat} (hr : RdB oa ent l) (hl : l.length ≤ 65536) : Spec Tryz.prog 17 [ptrC p, .slice oa l.length c0] (sH g ++ [ent]) (fun r H' => ∃ g', SGd g' p (v.recv l).1 ∧ r = .int .i64 (v.recv l).2 ∧ H' = sH g' ++ [ent]) := by
  obtain ⟨h, rfl, rfl⟩ := hg
  exact (srecv_ok h hb.cl hr hl).mono (by rintro r H' ⟨m', x', e1, e2, e3, e4, e5⟩; exact ⟨⟨m', x'⟩, ⟨e2, e1, e3⟩, e4, e5⟩)
theorem s_reply (id code : Int) {body : Bs} {oa : Option Addr} {ent : Ent} {c : Nat} (hr : RdB oa ent body) (hbl : body.length ≤ 1000000) : Spec Tryz.prog 20 [ptrC p, .int .i64 id, .int .i64 code, .slice oa body.length c] (sH g ++ [ent]) (fun r H' => ∃ g', SGd g' p (v.reply id code body).1 ∧ r = .int .i64 (v.reply id code body).2 ∧ H' = sH g' ++ [ent]) := by
  obtain ⟨h, rfl, rfl⟩ := hg
  exact (reply_ok h hb.cl id code hr hbl).mono (by rintro r H' ⟨m', x', e1, e2, e3, e4, e5⟩; exact ⟨⟨m', x'⟩, ⟨e2, e1, e3⟩, e4, e5⟩)
theorem s_next0 (he : v.qu = []) : Spec Tryz.prog 19 [ptrC p] (sH g) (fun r H' => ∃ g', SGd g' p v ∧ r = .tuple #[.agg #[.int .i64 0, .int .u64 0, .slice none 0 0], .bool false] ∧ H' = sH g') := by
  obtain ⟨h, rfl, rfl⟩ := hg
  exact (snext_empty h hb.cl (by simpa [Sv.v] using he)).mono (by rintro r H' ⟨m', x', e1, e2, e3, e4, e5⟩; exact ⟨⟨m', x'⟩, ⟨e2, e1, e3⟩, e4, e5⟩)
theorem s_next1 {rr : Rr} {rest : List Rr} (he : v.qu = rr :: rest) : Spec Tryz.prog 19 [ptrC p] (sH g) (fun r H' => ∃ g' o c tl, SGd g' p { v with qu := rest } ∧ Own o rr.body.length c 1 (bvs rr.body) tl ∧ r = .tuple #[.agg #[.int .i64 rr.id, .int .u64 (rr.dl : Int), slV o rr.body.length c], .bool true] ∧ H' = sH g' ++ [⟨o, cl (bvs rr.body ++ tl) 5⟩]) := by
  obtain ⟨h, rfl, rfl⟩ := hg
  have he : g.x.qu.map Rq.v = rr :: rest := he
  obtain ⟨r0, rs, e0, e1, e2⟩ := List.map_eq_cons_iff.1 he
  subst e1; subst e2
  exact (snext_take h hb.cl r0 rs e0).mono (by rintro r H' ⟨m', x', e1, e2, e3, e4, e5⟩; exact ⟨⟨m', x'⟩, r0.o, r0.c, r0.tl, ⟨e2, e1, e3⟩, h.rO r0 (by rw [e0]; exact List.mem_cons_self ..), e4, e5⟩)
theorem s_out1 (n : Nat) (hn : n ≤ 65536) : Spec Tryz.prog 14 [ptrC p, .int .i64 (n : Int)] (sH g) (fun r H' => ∃ g' o c tl, SGd g' p { v with out := v.out.drop n } ∧ Own o (v.out.take n).length c 1 (bvs (v.out.take n)) tl ∧ r = .tuple #[slV o (v.out.take n).length c, .int .i64 0] ∧ H' = sH g' ++ [⟨o, cl (bvs (v.out.take n) ++ tl) 5⟩]) := by
  obtain ⟨h, rfl, rfl⟩ := hg
  exact (sout_do h hb.cl n hn).mono (by rintro r H' ⟨o, c2, tl2, m', x', e1, e2, e3, e4, e5, e6⟩; exact ⟨⟨m', x'⟩, o, c2, tl2, ⟨e2, e1, e3⟩, e5, e4, e6⟩)
end
def pc0 : PC := ⟨[], [], 0, 0, 0, 0, [], [], false⟩
def pv0 : PV := ⟨[], [], 0, 0, 0, [], []⟩
/-- A new client. -/
theorem c_new (p : Nat) : ∃ g, CGd g p pc0 ∧ ∀ F : Heap, ∀ H0 w0 w, HW H0 w0 (⟨some p, cl [.slice none 0 0, .slice none 0 0, .int .i64 0, .int .i64 0, .int .i64 0, .int .u64 0, .slice none 0 0, .slice none 0 0, .bool false] 40⟩ :: F) w → HW H0 w0 (cH g ++ F) w := by
  refine ⟨⟨⟨p, ⟨none, 0, 0, [], [], none, 0, 0, [], []⟩, none, 0, [], none, 0, 0, [], []⟩, ⟨⟨[], [], 0, 0, 0⟩, 0, [], [], false⟩⟩, ⟨⟨⟨OwnS.empty 1, OwnS.empty 1⟩, Own.empty 2, OwnS.empty 3, fun r hr => by cases hr⟩, rfl, rfl⟩, fun F H0 w0 w h => ?_⟩
  have h1 := (((h.addNone 5).addNone 5).addNone 76).addNone 64
  exact h1.perm (pp1 _ _ _ _ _ F)
theorem s_new (p : Nat) : ∃ g, SGd g p pv0 ∧ ∀ F : Heap, ∀ H0 w0 w, HW H0 w0 (⟨some p, cl [.slice none 0 0, .slice none 0 0, .int .i64 0, .int .i64 0, .int .i64 0, .slice none 0 0, .slice none 0 0] 45⟩ :: F) w → HW H0 w0 (sH g ++ F) w := by
  refine ⟨⟨⟨p, ⟨none, 0, 0, [], [], none, 0, 0, [], []⟩, none, 0, [], none, 0, 0, [], []⟩, ⟨⟨[], [], 0, 0, 0⟩, [], []⟩⟩, ⟨⟨⟨OwnS.empty 1, OwnS.empty 1⟩, Own.empty 1, OwnS.empty 3, fun r hr => by cases hr⟩, rfl, rfl⟩, fun F H0 w0 w h => ?_⟩
  have h1 := (((h.addNone 5).addNone 5).addNone 3).addNone 59
  exact h1.perm (pp1 _ _ _ _ _ F)
end Go.Proofs.YtkcfgglmlogjbaaGreat
end
section
set_option linter.unusedVariables false
set_option maxRecDepth 20000
set_option maxHeartbeats 2000000
namespace Go.Proofs.YtkcfgglmlogjbaaGreat
structure Fr where
  k : UInt8
  b : Bs
def encA (L : List Fr) : Bs := L.flatMap fun f => encF f.k f.b
theorem encA_cons (f : Fr) (L : List Fr) : encA (f :: L) = encF f.k f.b ++ encA L := rfl
theorem encA_app (A B : List Fr) : encA (A ++ B) = encA A ++ encA B := List.flatMap_append
theorem encA_one (f : Fr) : encA [f] = encF f.k f.b := by simp [encA]
theorem encF_shape (k : UInt8) (b rest : Bs) : encF k b ++ rest = 197 :: k :: UInt8.ofNat (b.length / 256) :: UInt8.ofNat b.length :: (b ++ (twoB (sumB (innF k b)) ++ rest)) := by simp [encF, innF, twoB]
theorem u8_hi {n : Nat} (h : n < 65536) : (UInt8.ofNat (n / 256)).toNat * 256 + (UInt8.ofNat n).toNat = n := by rw [UInt8.toNat_ofNat', UInt8.toNat_ofNat']; omega
theorem nxt_enc (k : UInt8) (b rest : Bs) (hb : b.length ≤ 1024) : nxt (encF k b ++ rest) = .got k b (b.length + 6) := by
  have hs := encF_shape k b rest
  have hlen : (encF k b ++ rest).length = b.length + 6 + rest.length := by rw [List.length_append, encF_len]
  have hx0 : (encF k b ++ rest)[0]? = some 197 := by rw [hs]; rfl
  have hx2 : (encF k b ++ rest)[2]? = some (UInt8.ofNat (b.length / 256)) := by rw [hs]; rfl
  have hx3 : (encF k b ++ rest)[3]? = some (UInt8.ofNat b.length) := by rw [hs]; rfl
  have hl : lngB (encF k b ++ rest) = b.length := by rw [lngB_of hx2 hx3]; exact u8_hi (by omega)
  rw [nxt_five (by omega) hx0 rfl (by omega), hl, if_neg (by omega), if_neg (by omega)]
  have h1 : ((encF k b ++ rest).drop 1).take (3 + b.length) = innF k b := by
    rw [show (encF k b ++ rest).drop 1 = innF k b ++ (twoB (sumB (innF k b)) ++ rest) from by rw [hs]; simp [innF, twoB]]
    exact List.take_left' (by rw [innF_len]; omega)
  have h4 : (encF k b ++ rest).drop 4 = b ++ (twoB (sumB (innF k b)) ++ rest) := by rw [hs]; rfl
  have h2 : ((encF k b ++ rest).drop (4 + b.length)).take 2 = twoB (sumB (innF k b)) := by
    rw [← List.drop_drop, h4, List.drop_left]
    exact List.take_left' (by simp [twoB])
  rw [h1, h2, if_neg (by simp), h4, List.take_left]
  rw [hs]; rfl
theorem nxt_pre {k : UInt8} {b rest p q : Bs} (hp : p ++ q = encF k b ++ rest) (hlen : p.length < b.length + 6) (hb : b.length ≤ 1024) : nxt p = .wait := by
  have hs := encF_shape k b rest
  have hget : ∀ i, i < p.length → p[i]? = (encF k b ++ rest)[i]? := fun i hi => by rw [← hp, List.getElem?_append_left hi]
  by_cases h0 : p.length = 0
  · exact nxt_nil h0
  have hx0 : p[0]? = some 197 := by rw [hget 0 (by omega), hs]; rfl
  by_cases h4 : p.length < 4
  · exact nxt_four h0 hx0 rfl h4
  have hx2 : p[2]? = some (UInt8.ofNat (b.length / 256)) := by rw [hget 2 (by omega), hs]; rfl
  have hx3 : p[3]? = some (UInt8.ofNat b.length) := by rw [hget 3 (by omega), hs]; rfl
  have hl : lngB p = b.length := by rw [lngB_of hx2 hx3]; exact u8_hi (by omega)
  rw [nxt_five h0 hx0 rfl h4, hl, if_neg (by omega), if_pos (by omega)]
section
variable {Q : Type} (step : Q → UInt8 → Bs → Q × Int)
def runF (q : Q) (A : List Fr) : Q := A.foldl (fun q f => (step q f.k f.b).1) q
def okF : Q → List Fr → Prop
  | _, [] => True
  | q, f :: r => 4 ≤ f.b.length ∧ f.b.length ≤ 1024 ∧ (step q f.k f.b).2 = 0 ∧ okF (step q f.k f.b).1 r
end
theorem val_big4 {n : Nat} (h : n < 4294967296) (r : Bs) : valB ((bigB n 4 ++ r).take 4) = n := by
  rw [List.take_left' (bigB_len n 4)]
  show valB [UInt8.ofNat (n / 16777216), UInt8.ofNat (n / 65536), UInt8.ofNat (n / 256), UInt8.ofNat (n / 1)] = n
  simp only [valB, List.foldl_cons, List.foldl_nil, UInt8.toNat_ofNat']
  omega
theorem val_big2 {n : Nat} (h : n < 65536) (r : Bs) : valB ((bigB n 2 ++ r).take 2) = n := by
  rw [List.take_left' (bigB_len n 2)]
  show valB [UInt8.ofNat (n / 256), UInt8.ofNat (n / 1)] = n
  simp only [valB, List.foldl_cons, List.foldl_nil, UInt8.toNat_ofNat']
  omega
def reqF (id dl : Nat) (bd : Bs) : Fr := ⟨16, bigB id 4 ++ (bigB dl 8 ++ bd)⟩
def repF (id code : Nat) (bd : Bs) : Fr := ⟨17, bigB id 4 ++ (bigB code 2 ++ bd)⟩
def idsC (cs : List Ca) (rs : List Res) : List Int := cs.map (fun c => (c.id : Int)) ++ rs.map (fun r => r.id)
def OkR (Dn : Nat → Bool) (Rp : Nat → Bs) (r : Res) : Prop := (r.code = 0 ∧ Dn r.id.toNat = true ∧ Rp r.id.toNat = r.body) ∨ (r.body = [] ∧ (r.code = 12 ∨ r.code = 14 ∨ r.code = 7))
structure CI (made : Nat) (R : Nat → Int) (Dn : Nat → Bool) (Rp : Nat → Bs) (cs : List Ca) (rs : List Res) : Prop where
  nd : (idsC cs rs).Nodup
  mem : ∀ i : Nat, ((i : Int) ∈ idsC cs rs ↔ 1 ≤ i ∧ i ≤ made ∧ R i = 0)
  pos : ∀ i ∈ idsC cs rs, 0 ≤ i
  ok : ∀ r ∈ rs, OkR Dn Rp r
  len : cs.length + rs.length ≤ made
  c32 : cs.length ≤ 32
  dl : ∀ c ∈ cs, c.dl ≤ 1000000
theorem flt_perm (q : Ca → Bool) : ∀ l : List Ca, (l.filter (nq q) ++ l.filter q).Perm l
  | [] => .refl _
  | c :: r => by
    by_cases h : q c = true
    · rw [List.filter_cons_of_pos h, List.filter_cons_of_neg (by simp [nq, h])]
      exact List.perm_middle.trans ((flt_perm q r).cons c)
    · rw [List.filter_cons_of_neg h, List.filter_cons_of_pos (by simp [nq, h])]
      exact (flt_perm q r).cons c
theorem ids_end (q : Ca → Bool) (code : Int) (body : Bs) (cs : List Ca) (rs : List Res) : (idsC (cs.filter (nq q)) (rs ++ (overC q code cs).map fun c => ⟨(c.id : Int), code, body⟩)).Perm (idsC cs rs) := by
  unfold idsC
  rw [List.map_append, List.map_map]
  have h1 : ((overC q code cs).map ((fun r : Res => r.id) ∘ fun c : Ca => (⟨(c.id : Int), code, body⟩ : Res))).Perm ((cs.filter q).map fun c => (c.id : Int)) := (overC_perm q code cs).map _
  refine (List.Perm.append_left _ (List.Perm.append_left _ h1)).trans ?_
  have h2 := (flt_perm q cs).map fun c => (c.id : Int)
  rw [List.map_append] at h2
  refine List.Perm.trans ?_ (h2.append_right _)
  rw [List.append_assoc]
  exact List.Perm.append_left _ List.perm_append_comm
theorem CI.endW {made : Nat} {R : Nat → Int} {Dn : Nat → Bool} {Rp : Nat → Bs} {cs : List Ca} {rs : List Res} (h : CI made R Dn Rp cs rs) {q : Ca → Bool} {code : Int} {body : Bs} (hc : ∀ c ∈ cs, q c = true → OkR Dn Rp ⟨(c.id : Int), code, body⟩) :
    CI made R Dn Rp (cs.filter (nq q)) (rs ++ (overC q code cs).map fun c => ⟨(c.id : Int), code, body⟩) := by
  have hp := ids_end q code body cs rs
  refine ⟨hp.nodup_iff.2 h.nd, fun i => by rw [hp.mem_iff]; exact h.mem i, fun i hi => h.pos i (hp.mem_iff.1 hi), fun r hr => ?_, ?_, Nat.le_trans (List.length_filter_le ..) h.c32, fun c hc => h.dl c (List.mem_filter.1 hc).1⟩
  · rcases List.mem_append.1 hr with h1 | h1
    · exact h.ok r h1
    · obtain ⟨c, h2, rfl⟩ := List.mem_map.1 h1
      have h3 := List.mem_filter.1 ((overC_perm q code cs).mem_iff.1 h2)
      exact hc c h3.1 h3.2
  · have h1 := flt_part q cs
    have h2 := (overC_perm q code cs).length_eq
    have h3 := h.len
    rw [List.length_append, List.length_map]
    omega
theorem CI.call {made : Nat} {R : Nat → Int} {Dn : Nat → Bool} {Rp : Nat → Bs} {cs : List Ca} {rs : List Res} (h : CI made R Dn Rp cs rs) (hR : R (made + 1) = 0) {dl : Nat} (hd : dl ≤ 1000000) (h32 : cs.length < 32) : CI (made + 1) R Dn Rp (cs ++ [⟨made + 1, dl⟩]) rs := by
  have hp : (idsC (cs ++ [⟨made + 1, dl⟩]) rs).Perm ((((made + 1 : Nat) : Int)) :: idsC cs rs) := by
    unfold idsC
    rw [List.map_append, List.append_assoc]
    exact List.perm_middle
  refine ⟨hp.nodup_iff.2 (List.nodup_cons.2 ⟨fun hm => ?_, h.nd⟩), fun i => ?_, fun i hi => ?_, h.ok, by have := h.len; simp; omega, by simp; omega, fun c hc => ?_⟩
  · have := (h.mem (made + 1)).1 hm; omega
  · rw [hp.mem_iff, List.mem_cons, h.mem i]
    constructor
    · rintro (e | ⟨e1, e2, e3⟩)
      · have : i = made + 1 := by omega
        subst this
        exact ⟨by omega, by omega, hR⟩
      · exact ⟨e1, by omega, e3⟩
    · rintro ⟨e1, e2, e3⟩
      by_cases e : i = made + 1
      · left; rw [e]
      · right; exact ⟨e1, by omega, e3⟩
  · rcases List.mem_cons.1 (hp.mem_iff.1 hi) with e | e
    · omega
    · exact h.pos i e
  · rcases List.mem_append.1 hc with e | e
    · exact h.dl c e
    · rw [List.mem_singleton.1 e]; exact hd
theorem step_rep {v : PC} {id code : Nat} {bd : Bs} (hid : 0 < id ∧ id ≤ v.last) (hi : id < 4294967296) (hc : code < 65536) : v.step 17 (repF id code bd).b = (v.endW (isId (id : Int)) (code : Int) bd, 0) := by
  have h1 : valB ((repF id code bd).b.take 4) = id := val_big4 hi _
  have h2 : (repF id code bd).b.drop 4 = bigB code 2 ++ bd := List.drop_left' (bigB_len _ _)
  have h3 : (repF id code bd).b.drop 6 = bd := by rw [show 6 = 4 + 2 from rfl, ← List.drop_drop, h2]; exact List.drop_left' (bigB_len _ _)
  have h4 : 6 ≤ (repF id code bd).b.length := by simp [repF, bigB_len]; omega
  unfold PC.step
  rw [if_neg (fun e => e ⟨rfl, h4⟩), h1, if_neg (fun e => e hid), h2, val_big2 hc, h3]
structure SvI (u : PV) : Prop where
  o32 : u.opn.length ≤ 32
  nd : u.opn.Nodup
  opn : ∀ i ∈ u.opn, 1 ≤ i ∧ i ≤ (u.last : Int)
  qu : ∀ r ∈ u.qu, 1 ≤ r.id ∧ r.id ≤ (u.last : Int)
  ql : u.qu.length ≤ u.last
theorem delI_nd {id : Int} : ∀ {l : List Int}, l.Nodup → (delI id l).Nodup ∧ id ∉ delI id l
  | [], _ => ⟨List.nodup_nil, by simp [delI]⟩
  | x :: r, h => by
    obtain ⟨h1, h2⟩ := List.nodup_cons.1 h
    unfold delI
    split
    · rename_i e; subst e; exact ⟨h2, h1⟩
    · rename_i e
      obtain ⟨g1, g2⟩ := delI_nd (id := id) h2
      exact ⟨List.nodup_cons.2 ⟨fun hm => h1 (delI_sub hm), g1⟩, fun hm => by rcases List.mem_cons.1 hm with e2 | e2; exact e e2; exact g2 e2⟩
theorem SvI.close {u : PV} (h : SvI u) (id : Int) : SvI (u.close id) ∧ (∀ i ∈ (u.close id).opn, i ∈ u.opn) ∧ id ∉ (u.close id).opn := by
  unfold PV.close
  split
  · have hd := delI_nd (id := id) h.nd
    refine ⟨⟨Nat.le_trans (delI_len ..) h.o32, hd.1, fun i hi => h.opn i (delI_sub hi), fun r hr => h.qu r (List.mem_filter.1 hr).1, ?_⟩, fun i hi => delI_sub hi, hd.2⟩
    have h2 : (u.qu.filter (notId id)).length ≤ u.qu.length := List.length_filter_le ..
    have := h.ql
    show (u.qu.filter (notId id)).length ≤ u.last
    omega
  · rename_i hn
    refine ⟨h, fun i hi => hi, fun hm => hn ?_⟩
    rw [List.any_eq_true]
    exact ⟨id, hm, decide_eq_true rfl⟩
end Go.Proofs.YtkcfgglmlogjbaaGreat
end
section
set_option linter.unusedVariables false
set_option maxRecDepth 20000
set_option maxHeartbeats 4000000
namespace Go.Proofs.YtkcfgglmlogjbaaGreat
theorem enc_split {F : List Fr} {bs rest : Bs} (he : bs ++ rest = encA F) (hl : ∀ f r, F = f :: r → f.b.length ≤ 1024) : (nxt bs = .wait ∧ ∀ f r, F = f :: r → bs.length < f.b.length + 6) ∨ ∃ f r, F = f :: r ∧ nxt bs = .got f.k f.b (f.b.length + 6) ∧ bs.drop (f.b.length + 6) ++ rest = encA r := by
  rcases F with _ | ⟨f, r⟩
  · have h0 : bs = [] := by have := congrArg List.length he; simp [encA] at this; exact this.1
    subst h0
    exact .inl ⟨nxt_nil rfl, fun f r e => by cases e⟩
  · have h10 := hl f r rfl
    rw [encA_cons] at he
    by_cases hlt : bs.length < f.b.length + 6
    · exact .inl ⟨nxt_pre he hlt h10, fun f' r' e => by cases e; exact hlt⟩
    · right
      have hel := encF_len f.k f.b
      have hbs : bs = encF f.k f.b ++ bs.drop (f.b.length + 6) := by
        have h1 := congrArg (List.take (f.b.length + 6)) he
        rw [List.take_append_of_le_length (by omega), List.take_left' (by omega)] at h1
        conv => lhs; rw [← List.take_append_drop (f.b.length + 6) bs]
        rw [h1]
      refine ⟨f, r, rfl, by rw [hbs]; exact nxt_enc _ _ _ h10, ?_⟩
      rw [hbs, List.append_assoc] at he
      exact List.append_cancel_left he
theorem mrec_idle (p3 p6 : Value) : DSpec Tryz.prog 51 [p3, p6] .returning [] (fun H' => H' = []) .returning := by
  refine DSpec.recov (x1 := 5) (x2 := 2) (rv := .nilIface) (E := [(0, p3), (1, p6)]) Tryz.func51 rfl (by kernel_rfl) Tryz.ntmps51 rfl rfl rfl rfl rfl rfl rfl rfl rfl rfl recov_idle (fun w => ?_)
  refine WC_seq ?_
  refine WC_region ?_
  refine WL_val rfl rfl rfl (R_move rfl rfl) ?_
  refine WL_val rfl rfl rfl (R_ifaceNeNil rfl Tryz.underlying20 ⟨_, rfl⟩ rfl) ?_
  refine WL_nil ?_
  refine WQ_code ?_
  refine WC_F rfl ?_
  refine WC_skip ?_
  refine WQ_ret rfl rfl .nil rfl (by
      exact rfl) (pqD)
structure RxW (S : Type) where
  s : S
  F : List Fr
  bs : Bs
  k : Nat
  c : Nat
  pre : List Value
theorem mreceive_ok {S : Type} (p rp mb : Nat) (a0 a2 a3 a4 a5 : S → Value) (HS : S → Heap) (OK : S → List Fr → Prop)
    (hlen : ∀ s f r, OK s (f :: r) → f.b.length ≤ 1024)
    (hstep : ∀ s f r, OK s (f :: r) → ∀ (o : Option Nat) (c2 : Nat) (tl : List Value), Own o f.b.length c2 1 (bvs f.b) tl →
      Spec Tryz.prog 54 [ptrW p, .agg #[.int .u8 (f.k.toNat : Int), slV o f.b.length c2]] ([⟨some p, cl [a0 s, .map (some mb), a2 s, a3 s, a4 s, a5 s, ptrW rp, .int .i64 0] 70⟩] ++ HS s ++ [⟨o, cl (bvs f.b ++ tl) 5⟩]) (fun r' H' => ∃ s', OK s' r ∧ r' = .tuple #[] ∧ H' = [⟨some p, cl [a0 s', .map (some mb), a2 s', a3 s', a4 s', a5 s', ptrW rp, .int .i64 0] 70⟩] ++ HS s')) {l : Bs} {oa : Option Addr} {ent : Ent} {c0 : Nat} (hr : RdB oa ent l) (s : S) (FS : List Fr) (hs : OK s FS) {bs rest : Bs} (hE : bs ++ l ++ rest = encA FS) {ob : Option Nat} {k c : Nat} {pre tl : List Value} (hO : OwnS ob k bs.length c 1 pre (bvs bs) tl) (hfit : bs.length + l.length ≤ 65536) :
    Spec Tryz.prog 28 [ptrW p, .slice oa l.length c0] ([⟨some p, cl [a0 s, .map (some mb), a2 s, a3 s, a4 s, a5 s, ptrW rp, .int .i64 0] 70⟩, ⟨some rp, cl [sVal ob k bs.length c, .int .i64 0] 32⟩, ⟨ob, cl (pre ++ (bvs bs ++ tl)) 5⟩] ++ HS s ++ [ent])
      (fun r H' => ∃ s' B bs' ob' k' c' pre' tl', OK s' B ∧ bs' ++ rest = encA B ∧ (∀ f r, B = f :: r → bs'.length < f.b.length + 6) ∧ bs'.length ≤ bs.length + l.length ∧ r = .int .i64 0 ∧ OwnS ob' k' bs'.length c' 1 pre' (bvs bs') tl' ∧
        H' = [⟨some p, cl [a0 s', .map (some mb), a2 s', a3 s', a4 s', a5 s', ptrW rp, .int .i64 0] 70⟩, ⟨some rp, cl [sVal ob' k' bs'.length c', .int .i64 0] 32⟩, ⟨ob', cl (pre' ++ (bvs bs' ++ tl')) 5⟩] ++ HS s' ++ [ent]) := by
  refine Spec.ofD (E := [(0, ptrW p), (1, .slice oa l.length c0)]) Tryz.func28 rfl (by kernel_rfl) Tryz.ntmps28 rfl rfl (fun w => ?_)
  refine WC_seq ?_
  refine WC_region ?_
  refine WL_do rfl rfl rfl (D_box (cs := [_]) rfl rfl rfl) ?_
  rintro _ _ ⟨b1, rfl, rfl⟩
  refine WL_do rfl rfl rfl (D_alloc rfl zv27) ?_
  rintro _ _ ⟨b2, rfl, rfl⟩
  refine WL_nil ?_
  refine WQ_code ?_
  refine WC_seq ?_
  refine WC_seq ?_
  refine WC_region ?_
  refine WL_val rfl rfl rfl (R_load rfl sc26 rfl (mmD) rfl) ?_
  refine WL_do rfl rfl rfl (D_call (mmay_ok (a0 s) (a2 s) (a3 s) (a4 s) (ptrW rp) mb p _) rfl rfl rfl rfl (pqD)) ?_
  rintro _ _ ⟨_, ⟨rfl, rfl⟩, rfl⟩
  refine WL_val rfl rfl rfl (R_assign rfl rfl) ?_
  refine WL_nil ?_
  refine WQ_code ?_
  refine WC_seq ?_
  refine WC_region ?_
  refine WL_val rfl rfl rfl (R_move rfl rfl) ?_
  refine WL_val rfl rfl rfl (R_neq rfl rfl rfl) ?_
  refine WL_nil ?_
  refine WQ_code ?_
  refine WC_dF rfl (by decide) ?_
  refine WC_skip ?_
  refine WQ_code ?_
  refine WC_seq ?_
  refine WC_seq ?_
  refine WC_region ?_
  refine WL_val rfl rfl rfl (R_load rfl sc26 rfl (mmD) rfl) ?_
  refine WL_val rfl rfl rfl (R_nilCheck rfl rfl) ?_
  refine WL_val rfl rfl rfl (R_fieldAddr rfl fa70_6 rfl) ?_
  refine WL_val rfl rfl rfl (R_load rfl sc68 rfl (mmD) rfl) ?_
  refine WL_val rfl rfl rfl (R_move rfl rfl) ?_
  refine WL_do rfl rfl rfl (D_call (feed0_ok rp hO hr hfit) rfl rfl rfl rfl (pqD)) ?_
  rintro _ _ ⟨_, ⟨ob1, k1, c1, pre1, tl1, rfl, rfl, hO1⟩, rfl⟩
  refine WL_val rfl rfl rfl (R_assign rfl rfl) ?_
  refine WL_nil ?_
  refine WQ_code ?_
  refine WC_seq ?_
  refine WC_region ?_
  refine WL_val rfl rfl rfl (R_move rfl rfl) ?_
  refine WL_val rfl rfl rfl (R_neq rfl rfl rfl) ?_
  refine WL_nil ?_
  refine WQ_code ?_
  refine WC_dF rfl (by decide) ?_
  refine WC_skip ?_
  refine WQ_code ?_
  refine WC_seq ?_
  refine WC_region ?_
  refine WL_val rfl rfl rfl (R_makeFunc rfl rfl rfl) ?_
  refine WL_defer rfl rfl rfl rfl rfl ?_
  refine WL_nil ?_
  refine WQ_code ?_
  refine WC_block ?_
  refine WC_loopF (G := RxW S) [7, 8, 9, 25, 26, 27, 28, 29, 30, 31, 32, 33, 34, 35, 36, 37, 38, 39, 40, 41, 42] (fun y => OK y.s y.F ∧ y.bs ++ rest = encA y.F ∧ y.bs.length ≤ bs.length + l.length ∧ OwnS ob1 y.k y.bs.length y.c 1 y.pre (bvs y.bs) tl1) (fun y => []) (fun y => [⟨some p, cl [a0 y.s, .map (some mb), a2 y.s, a3 y.s, a4 y.s, a5 y.s, ptrW rp, .int .i64 0] 70⟩, ⟨some rp, cl [sVal ob1 y.k y.bs.length y.c, .int .i64 0] 32⟩, ⟨ob1, cl (y.pre ++ (bvs y.bs ++ tl1)) 5⟩] ++ HS y.s) (fun y => y.bs.length) (⟨s, FS, bs ++ l, k1, c1, pre1⟩) (⟨hs, hE, by simp, hO1⟩) leZ (pqD) ?_
  rintro y ⟨hK, hE1, hbl, hO⟩
  refine WC_block ?_
  refine WC_seq ?_
  refine WC_region ?_
  refine WL_val rfl rfl rfl (R_load rfl sc26 rfl (mmD) rfl) ?_
  refine WL_val rfl rfl rfl (R_nilCheck rfl rfl) ?_
  refine WL_val rfl rfl rfl (R_fieldAddr rfl fa70_6 rfl) ?_
  refine WL_val rfl rfl rfl (R_load rfl sc68 rfl (mmD) rfl) ?_
  rcases enc_split hE1 (fun f r e => hlen y.s f r (e ▸ hK)) with ⟨hN, hW⟩ | ⟨f9, r9, hF, hN, hE2⟩
  · refine WL_do rfl rfl rfl (D_call (rnext0_wait rp hO (by omega) hN) rfl rfl rfl rfl (pqD)) ?_
    rintro _ _ ⟨_, ⟨k2, c2, rfl, rfl, hO2⟩, rfl⟩
    refine WL_val rfl rfl rfl (R_move rfl rfl) ?_
    refine WL_val rfl rfl rfl (R_extract rfl rfl rfl) ?_
    refine WL_val rfl rfl rfl (R_extract rfl rfl rfl) ?_
    refine WL_val rfl rfl rfl (R_extract rfl rfl rfl) ?_
    refine WL_do rfl rfl rfl (D_alloc rfl zv84) ?_
    rintro _ _ ⟨b3, rfl, rfl⟩
    refine WL_do0 rfl rfl (D_store (vs := [_, _]) rfl Tryz.sizeOf84 rfl rfl rfl rfl rfl (plD) (by exact Nat.le_of_ble_eq_true rfl)) ?_
    rintro _ _ rfl
    refine WL_val rfl rfl rfl (R_assign rfl rfl) ?_
    refine WL_val rfl rfl rfl (R_assign rfl rfl) ?_
    refine WL_nil ?_
    refine WQ_code ?_
    refine WC_seq ?_
    refine WC_region ?_
    refine WL_val rfl rfl rfl (R_move rfl rfl) ?_
    refine WL_val rfl rfl rfl (R_eql rfl rfl rfl) ?_
    refine WL_set (s := 35) (v := .bool true) rfl (by rfl) ?_
    refine WL_val rfl rfl rfl (R_move rfl rfl) ?_
    refine WL_do rfl rfl rfl (D_call (mmust_ok _) rfl rfl rfl rfl (pqD)) ?_
    rintro _ _ ⟨_, ⟨rfl, rfl⟩, rfl⟩
    refine WL_nil ?_
    refine WQ_code ?_
    refine WC_seq ?_
    refine WC_seq ?_
    refine WC_region ?_
    refine WL_val rfl rfl rfl (R_move rfl rfl) ?_
    refine WL_val rfl rfl rfl (R_not rfl rfl) ?_
    refine WL_nil ?_
    refine WQ_code ?_
    refine WC_T rfl ?_
    refine WC_seq ?_
    refine WC_region ?_
    refine WL_do0 rfl rfl (D_store (vs := [_]) rfl Tryz.sizeOf27 rfl rfl rfl rfl rfl (plD) (by exact Nat.le_of_ble_eq_true rfl)) ?_
    rintro _ _ rfl
    rw [put_b0]
    refine WL_nil ?_
    refine WQ_code ?_
    refine WC_ret ?_
    refine WQ_retD (mrec_idle _ _) rfl (pqD) rfl (.cons (.cell1 rfl sc27 (mmD) rfl) .nil) rfl (by
        exact ⟨y.s, y.F, y.bs, _, _, _, _, _, hK, hE1, hW, hbl, rfl, hO2, rfl⟩) (pqD)
  · obtain ⟨hm1, hm2, hm3⟩ := nxt_got hN
    refine WL_do rfl rfl rfl (D_call (rnext0_got rp hO (by omega) hN) rfl rfl rfl rfl (pqD)) ?_
    rintro _ _ ⟨_, ⟨o9, c9, tl9, k2, c2, pre2, rfl, rfl, hO2, own9⟩, rfl⟩
    refine WL_val rfl rfl rfl (R_move rfl rfl) ?_
    refine WL_val rfl rfl rfl (R_extract rfl rfl rfl) ?_
    refine WL_val rfl rfl rfl (R_extract rfl rfl rfl) ?_
    refine WL_val rfl rfl rfl (R_extract rfl rfl rfl) ?_
    refine WL_do rfl rfl rfl (D_alloc rfl zv84) ?_
    rintro _ _ ⟨b4, rfl, rfl⟩
    refine WL_do0 rfl rfl (D_store (vs := [_, _]) rfl Tryz.sizeOf84 rfl rfl rfl rfl rfl (plD) (by exact Nat.le_of_ble_eq_true rfl)) ?_
    rintro _ _ rfl
    refine WL_val rfl rfl rfl (R_assign rfl rfl) ?_
    refine WL_val rfl rfl rfl (R_assign rfl rfl) ?_
    refine WL_nil ?_
    refine WQ_code ?_
    refine WC_seq ?_
    refine WC_region ?_
    refine WL_val rfl rfl rfl (R_move rfl rfl) ?_
    refine WL_val rfl rfl rfl (R_eql rfl rfl rfl) ?_
    refine WL_set (s := 35) (v := .bool true) rfl (by rfl) ?_
    refine WL_val rfl rfl rfl (R_move rfl rfl) ?_
    refine WL_do rfl rfl rfl (D_call (mmust_ok _) rfl rfl rfl rfl (pqD)) ?_
    rintro _ _ ⟨_, ⟨rfl, rfl⟩, rfl⟩
    refine WL_nil ?_
    refine WQ_code ?_
    refine WC_seq ?_
    refine WC_seq ?_
    refine WC_region ?_
    refine WL_val rfl rfl rfl (R_move rfl rfl) ?_
    refine WL_val rfl rfl rfl (R_not rfl rfl) ?_
    refine WL_nil ?_
    refine WQ_code ?_
    refine WC_F rfl ?_
    refine WC_skip ?_
    refine WQ_code ?_
    refine WC_region ?_
    refine WL_val rfl rfl rfl (R_load rfl sc26 rfl (mmD) rfl) ?_
    refine WL_val rfl rfl rfl (R_loadA (vs := [_, _]) rfl ag84 rfl (mmD) rfl (atZ)) ?_
    refine WL_do rfl rfl rfl (D_call (hstep y.s f9 r9 (hF ▸ hK) o9 c9 tl9 own9) rfl rfl rfl rfl (pqD)) ?_
    rintro _ _ ⟨_, ⟨s', hK', rfl, rfl⟩, rfl⟩
    refine WL_nil ?_
    refine WQ_nextF (gg := y) (⟨s', r9, y.bs.drop (f9.b.length + 6), k2, c2, pre2⟩) (⟨hK', hE2, by simp; omega, hO2⟩) (by simp; omega) leZ (psZ) rfl (pqD)
end Go.Proofs.YtkcfgglmlogjbaaGreat
end
section
set_option linter.unusedVariables false
set_option maxRecDepth 20000
set_option maxHeartbeats 4000000
namespace Go.Proofs.YtkcfgglmlogjbaaGreat
inductive MF where
  | dat (d : Bs)
  | crd (n : Nat)
def MF.fr : MF → Fr
  | .dat d => ⟨2, bigB 1 4 ++ d⟩
  | .crd n => ⟨3, bigB 1 4 ++ bigB n 4⟩
def MF.d : MF → Bs
  | .dat d => d
  | .crd _ => []
def MF.c : MF → Nat
  | .dat _ => 0
  | .crd n => n
def MF.ok : MF → Prop
  | .dat d => 1 ≤ d.length ∧ d.length ≤ 256
  | .crd n => 1 ≤ n ∧ n ≤ 10000
def datS (L : List MF) : Bs := L.flatMap MF.d
def crdS : List MF → Nat
  | [] => 0
  | f :: r => f.c + crdS r
def encM (L : List MF) : Bs := encA (L.map MF.fr)
theorem datS_app (A B : List MF) : datS (A ++ B) = datS A ++ datS B := List.flatMap_append
theorem datS_cons (f : MF) (B : List MF) : datS (f :: B) = f.d ++ datS B := rfl
theorem crdS_app : ∀ A B : List MF, crdS (A ++ B) = crdS A + crdS B
  | [], B => by simp [crdS]
  | f :: r, B => by simp only [List.cons_append, crdS, crdS_app r B]; omega
theorem encM_app (A B : List MF) : encM (A ++ B) = encM A ++ encM B := by unfold encM; rw [List.map_append, encA_app]
def MxX.got (x : MxX) (A : List MF) : MxX := { x with un := x.un ++ datS A, rcv := x.rcv - (datS A).length, snd := x.snd + crdS A }
abbrev mxH (m : MxM) (x : MxX) : Heap := [mxE m x, mxR m x, mxB m x, mxM m, mxS m x, mxU m x, mxO m x]
structure MxU where
  ub : Option Nat
  uk : Nat
  uc : Nat
  up : List Value
  ut : List Value
  x : MxX
abbrev mmU (m : MxM) (s : MxU) : MxM := { m with ub := s.ub, uk := s.uk, uc := s.uc, up := s.up, ut := s.ut }
def RcOk (m0 : MxM) (x0 : MxX) (L0 : List MF) (s : MxU) (F : List Fr) : Prop := ∃ A L, L0 = A ++ L ∧ F = L.map MF.fr ∧ s.x = x0.got A ∧ MxIs (mmU m0 s) s.x
theorem bigB4_take (n : Nat) (d : Bs) : (bigB n 4 ++ d).take 4 = bigB n 4 := List.take_left' (bigB_len n 4)
theorem bigB4_drop (n : Nat) (d : Bs) : (bigB n 4 ++ d).drop 4 = d := List.drop_left' (bigB_len n 4)
theorem rc_step {m0 : MxM} {x0 : MxX} {L0 : List MF} (hok : ∀ f ∈ L0, f.ok) (hd : (datS L0).length ≤ x0.rcv) (hc : x0.snd + crdS L0 ≤ x0.win) (hu : x0.un.length ≤ 10000) (hr : x0.rcv ≤ 10000)
    (s : MxU) (f : Fr) (r : List Fr) (h : RcOk m0 x0 L0 s (f :: r)) (o : Option Nat) (c2 : Nat) (tl : List Value) (own : Own o f.b.length c2 1 (bvs f.b) tl) :
    Spec Tryz.prog 54 [ptrW m0.p, .agg #[.int .u8 (f.k.toNat : Int), slV o f.b.length c2]] ([mxE (mmU m0 s) s.x] ++ [mxM m0, mxS (mmU m0 s) s.x, mxU (mmU m0 s) s.x] ++ [⟨o, cl (bvs f.b ++ tl) 5⟩])
      (fun r' H' => ∃ s', RcOk m0 x0 L0 s' r ∧ r' = .tuple #[] ∧ H' = [mxE (mmU m0 s') s'.x] ++ [mxM m0, mxS (mmU m0 s') s'.x, mxU (mmU m0 s') s'.x]) := by
  obtain ⟨A, L, hA, hF, hx, hI⟩ := h
  rcases L with _ | ⟨g, L⟩
  · cases hF
  obtain ⟨rfl, rfl⟩ := List.cons.inj hF
  have hg := hok g (by rw [hA]; simp)
  have e1 := datS_app A (g :: L)
  have e2 := crdS_app A (g :: L)
  rw [← hA, datS_cons] at e1
  rw [← hA] at e2
  have e3 := congrArg List.length e1
  simp only [List.length_append, crdS] at e3 e2
  have hwin : s.x.win = x0.win := by rw [hx]; rfl
  have hrcv : s.x.rcv = x0.rcv - (datS A).length := by rw [hx]; rfl
  have hsnd : s.x.snd = x0.snd + crdS A := by rw [hx]; rfl
  have hun : s.x.un = x0.un ++ datS A := by rw [hx]; rfl
  have hA2 : L0 = (A ++ [g]) ++ L := by rw [hA]; simp
  have d2 : datS (A ++ [g]) = datS A ++ g.d := by rw [datS_app]; simp [datS]
  have c2' : crdS (A ++ [g]) = crdS A + g.c := by rw [crdS_app]; simp [crdS]
  rcases g with d | n
  · have hdr : (bigB 1 4 ++ d).drop 4 = d := bigB4_drop 1 d
    have hg : 1 ≤ d.length ∧ d.length ≤ 256 := hg
    have e3 : (datS L0).length = (datS A).length + (d.length + (datS L).length) := e3
    refine (mhandle_data hI 2 (bigB4_take 1 d) own rfl (by rw [hdr]; exact hg) (by rw [hdr]; omega) (by rw [hun, List.length_append]; omega)).mono ?_
    rintro r' H' ⟨ub', uk', uc', up', ut', rfl, hI', rfl⟩
    rw [hdr] at hI' ⊢
    refine ⟨⟨ub', uk', uc', up', ut', _⟩, ⟨A ++ [.dat d], L, hA2, rfl, ?_, hI'⟩, rfl, rfl⟩
    show ({ s.x with un := s.x.un ++ d, rcv := s.x.rcv - d.length } : MxX) = _
    rw [hx]
    unfold MxX.got
    rw [d2, c2']
    simp only [MF.d, MF.c, List.length_append, List.append_assoc, MxX.mk.injEq, true_and, and_true]
    omega
  · have hdr : (bigB 1 4 ++ bigB n 4).drop 4 = bigB n 4 := bigB4_drop 1 (bigB n 4)
    have hg : 1 ≤ n ∧ n ≤ 10000 := hg
    have hnb : numB (bigB n 4) = n := numB_big4 (by omega)
    have e2 : crdS L0 = crdS A + (n + crdS L) := e2
    refine (mhandle_cred hI 3 (bigB4_take 1 (bigB n 4)) own rfl (by rw [hdr]; exact bigB_len n 4) (by rw [hdr, hnb]; omega)).mono ?_
    rintro r' H' ⟨rfl, hI', rfl⟩
    rw [hdr, hnb] at hI' ⊢
    refine ⟨⟨s.ub, s.uk, s.uc, s.up, s.ut, { s.x with snd := s.x.snd + n }⟩, ⟨A ++ [.crd n], L, hA2, rfl, ?_, hI'⟩, rfl, rfl⟩
    show ({ s.x with snd := s.x.snd + n } : MxX) = _
    rw [hx]
    unfold MxX.got
    rw [d2, c2']
    simp only [MF.d, MF.c, List.append_nil, MxX.mk.injEq, true_and, and_true]
    omega
theorem rc_len {m0 : MxM} {x0 : MxX} {L0 : List MF} (hok : ∀ f ∈ L0, f.ok) {s : MxU} {f : Fr} {r : List Fr} (h : RcOk m0 x0 L0 s (f :: r)) : f.b.length ≤ 1024 := by
  obtain ⟨A, L2, hA, hF, -, -⟩ := h
  rcases L2 with _ | ⟨g, L2⟩
  · cases hF
  obtain ⟨rfl, rfl⟩ := List.cons.inj hF
  have hg := hok g (by rw [hA]; simp)
  rcases g with d | n
  · have hg : 1 ≤ d.length ∧ d.length ≤ 256 := hg
    show (bigB 1 4 ++ d).length ≤ 1024
    rw [List.length_append, bigB_len]; omega
  · show (bigB 1 4 ++ bigB n 4).length ≤ 1024
    rw [List.length_append, bigB_len, bigB_len]; omega
theorem mrecv_ok {m : MxM} {x : MxX} (h : MxIs m x) {L : List MF} (hok : ∀ f ∈ L, f.ok) (hd : (datS L).length ≤ x.rcv) (hc : x.snd + crdS L ≤ x.win) (hu : x.un.length ≤ 10000) {l : Bs} {oa : Option Addr} {ent : Ent} {c0 : Nat} (hr : RdB oa ent l) {rest : Bs} (hE : x.rd ++ l ++ rest = encM L) (hfit : x.rd.length + l.length ≤ 65536) :
    Spec Tryz.prog 28 [ptrW m.p, .slice oa l.length c0] (mxH m x ++ [ent]) (fun r H' => ∃ m' A B bs', L = A ++ B ∧ m'.p = m.p ∧ MxIs m' { x.got A with rd := bs' } ∧ bs' ++ rest = encM B ∧ (∀ f r, B = f :: r → bs'.length < f.fr.b.length + 6) ∧ bs'.length ≤ x.rd.length + l.length ∧ r = .int .i64 0 ∧ H' = mxH m' { x.got A with rd := bs' } ++ [ent]) := by
  have hb := h.b
  have h0 : RcOk m x L ⟨m.ub, m.uk, m.uc, m.up, m.ut, x⟩ (L.map MF.fr) := ⟨[], L, rfl, rfl, by simp [MxX.got, datS, crdS], h⟩
  have hsp := mreceive_ok (S := MxU) m.p m.rp m.mb (fun s => .int .i64 (s.x.win : Int)) (fun s => .int .i64 (s.x.own : Int)) (fun s => .int .i64 (s.x.oth : Int)) (fun s => m.wv) (fun s => sVal m.ob m.ok s.x.out.length m.oc)
    (fun s => [mxM m, mxS (mmU m s) s.x, mxU (mmU m s) s.x]) (RcOk m x L) (fun s f r hs => rc_len hok hs) (rc_step hok hd hc hu hb.2.1)
    hr (c0 := c0) ⟨m.ub, m.uk, m.uc, m.up, m.ut, x⟩ (L.map MF.fr) h0 (bs := x.rd) (rest := rest) hE h.rO hfit
  refine Spec.re (((hsp.fr [mxO m x]).perm (List.Perm.append_left [mxE m x, mxR m x, mxB m x, mxM m, mxS m x, mxU m x] (.swap ..))).mono ?_)
  rintro r H' ⟨H1, ⟨s', B, bs', ob', k', c', pre', tl', ⟨A, L2, hA, hF, hx, hI⟩, hE', hW, hl', rfl, hO', rfl⟩, rfl⟩
  obtain ⟨ub', uk', uc', up', ut', x'⟩ := s'
  obtain rfl : x' = x.got A := hx
  subst hF
  refine ⟨mxH { m with ub := ub', uk := uk', uc := uc', up := up', ut := ut', rb := ob', rk := k', rc := c', rq := pre', rt := tl' } { x.got A with rd := bs' } ++ [ent], ?_, { m with ub := ub', uk := uk', uc := uc', up := up', ut := ut', rb := ob', rk := k', rc := c', rq := pre', rt := tl' }, A, L2, bs', hA, rfl, ⟨hI.mp, hI.oO, hI.uO, hO', hI.oo, hI.w, hI.b⟩, hE', fun f r e => hW f.fr (r.map MF.fr) (by rw [e]; rfl), hl', rfl, rfl⟩
  exact List.Perm.append_left [_, _, _, _, _, _] (.swap ..)
end Go.Proofs.YtkcfgglmlogjbaaGreat
end
section
set_option linter.unusedVariables false
set_option maxRecDepth 20000
set_option maxHeartbeats 4000000
namespace Go.Proofs.YtkcfgglmlogjbaaGreat
theorem SpecNone {P : Program} {f : FuncId} {args : List Value} {H : Heap} {post : Value → Heap → Prop} (e : TypeId) (h : Spec P f args H (fun r H' => ∃ x : Ent, (x.b = Option.none ∧ x.o = Go.Proofs.YtkcfgglmlogjbaaGreat.cl [] e) ∧ post r (x :: H'))) : Spec P f args H post :=
  ⟨h.enters, fun w hw => (h.calls w hw).mono fun _ _ ⟨v, H', e1, ⟨x, ⟨hx, hx2⟩, p⟩, r⟩ => ⟨v, x :: H', e1, p, by
    obtain ⟨b, o⟩ := x
    dsimp only at hx hx2
    subst hx hx2
    exact r.addNone e⟩⟩
theorem mout_ok {m : MxM} {x : MxX} (h : MxIs m x) (n : Nat) (hn : n ≤ 65536) (hout : x.out.length ≤ 1000000) : Spec Tryz.prog 27 [ptrW m.p, .int .i64 (n : Int)] (mxH m x)
    (fun r H' => ∃ m' o c2 tl2, m'.p = m.p ∧ MxIs m' { x with out := x.out.drop n } ∧ Own o (x.out.take n).length c2 1 (bvs (x.out.take n)) tl2 ∧ r = .tuple #[slV o (x.out.take n).length c2, .int .i64 0] ∧ H' = mxH m' { x with out := x.out.drop n } ++ [⟨o, cl (bvs (x.out.take n) ++ tl2) 5⟩]) := by
  have hO := h.oO
  rcases hob : m.ob with _ | b
  · have h0 := hO.nil hob
    have h1 : x.out = [] := List.eq_nil_of_length_eq_zero (by have := hO.le; omega)
    have hs := mout_none (.int .i64 (x.win : Int)) (.int .i64 (x.own : Int)) (.int .i64 (x.oth : Int)) m.wv (ptrW m.rp) m.mb m.p n hn
    have he : mxE m x = ⟨some m.p, cl [.int .i64 (x.win : Int), .map (some m.mb), .int .i64 (x.own : Int), .int .i64 (x.oth : Int), m.wv, .slice none 0 0, ptrW m.rp, .int .i64 0] 70⟩ := by simp only [mxE, mxEc, hob, h1, h0.1, List.length_nil]; rfl
    refine Spec.re (SpecNone 5 (((hs.fr [mxR m x, mxB m x, mxM m, mxS m x, mxU m x, mxO m x]).perm (by rw [← he]; exact .refl _)).mono ?_))
    rintro r H' ⟨H1, ⟨rfl, rfl⟩, rfl⟩
    have e1 : x.out.drop n = x.out := by rw [h1]; simp
    have e2 : x.out.take n = [] := by rw [h1]; simp
    have hx : ({ x with out := x.out.drop n } : MxX) = x := by rw [e1]
    refine ⟨⟨none, cl [] 5⟩, ⟨rfl, rfl⟩, mxH m x ++ [⟨none, cl [] 5⟩], ?_, m, none, 0, [], rfl, by rw [hx]; exact h, by rw [e2]; exact Own.empty 1, by rw [e2]; rfl, by rw [hx, e2]; rfl⟩
    rw [← he]
    exact (List.perm_append_comm (l₁ := mxH m x) (l₂ := [⟨none, cl [] 5⟩])).symm
  · have hO' : OwnS (some b) m.ok x.out.length m.oc 1 m.op (bvs x.out) m.ot := hob ▸ hO
    have hs := mout_some (.int .i64 (x.win : Int)) (.int .i64 (x.own : Int)) (.int .i64 (x.oth : Int)) m.wv (ptrW m.rp) m.mb m.p hO' n hn hout
    have he : mxE m x = ⟨some m.p, cl [.int .i64 (x.win : Int), .map (some m.mb), .int .i64 (x.own : Int), .int .i64 (x.oth : Int), m.wv, sVal (some b) m.ok x.out.length m.oc, ptrW m.rp, .int .i64 0] 70⟩ := by simp only [mxE, mxEc, hob]
    have ho : mxO m x = ⟨some b, cl (m.op ++ (bvs x.out ++ m.ot)) 5⟩ := by simp only [mxO, hob]
    refine Spec.re (((hs.fr [mxR m x, mxB m x, mxM m, mxS m x, mxU m x]).perm (by rw [← he, ← ho]; exact List.Perm.cons _ (List.perm_append_comm (l₁ := [mxR m x, mxB m x, mxM m, mxS m x, mxU m x]) (l₂ := [mxO m x])))).mono ?_)
    rintro r H' ⟨H1, ⟨o, c2, tl2, k', c', pre', rfl, rfl, hO2, own2⟩, rfl⟩
    refine ⟨mxH { m with ob := some b, ok := k', oc := c', op := pre' } { x with out := x.out.drop n } ++ [⟨o, cl (bvs (x.out.take n) ++ tl2) 5⟩], ?_, { m with ob := some b, ok := k', oc := c', op := pre' }, o, c2, tl2, rfl, ⟨h.mp, hO2, h.uO, h.rO, h.oo, h.w, h.b⟩, own2, rfl, rfl⟩
    exact List.Perm.cons _ (List.perm_append_comm (l₁ := [_, _]) (l₂ := [mxR m x, mxB m x, mxM m, mxS m x, mxU m x]))
theorem mread0_ok {m : MxM} {x : MxX} (h : MxIs m x) (he : x.un = []) : Spec Tryz.prog 35 [ptrW m.p, .int .i64 1, .int .i64 100] [mxE m x, mxM m, mxS m x, mxU m x, mxO m x] (fun r H' => r = .tuple #[.slice none 0 0, .int .i64 16] ∧ H' = [mxE m x, mxM m, mxS m x, mxU m x, mxO m x]) := by
  have hl : x.un.length = 0 := by rw [he]; rfl
  refine Spec.of (E := [(0, ptrW m.p), (1, .int .i64 1), (2, .int .i64 100)]) Tryz.func35 rfl (by kernel_rfl) Tryz.ntmps35 rfl rfl (fun w => ?_)
  refine WC_seq ?_
  refine WC_region ?_
  refine WL_val rfl rfl rfl (R_assign rfl rfl) ?_
  refine WL_val rfl rfl rfl (R_assign rfl rfl) ?_
  refine WL_nil ?_
  refine WQ_code ?_
  refine WC_seq ?_
  refine WC_region ?_
  refine WL_val rfl rfl rfl (R_move rfl rfl) ?_
  refine WL_val rfl rfl rfl (R_move rfl rfl) ?_
  refine WL_val rfl rfl rfl (R_move rfl rfl) ?_
  refine WL_val rfl rfl rfl (R_geq rfl rfl rfl) ?_
  refine WL_set (s := 16) (v := .bool true) rfl (by rfl) ?_
  refine WL_val rfl rfl rfl (R_move rfl rfl) ?_
  refine WL_val rfl rfl rfl (R_move rfl rfl) ?_
  refine WL_val rfl rfl rfl (R_leq rfl rfl rfl) ?_
  refine WL_set (s := 19) (v := .bool true) rfl (by rfl) ?_
  refine WL_val rfl rfl rfl (R_pickT rfl rfl rfl) ?_
  refine WL_do rfl rfl rfl (D_call (mlive_ok h) rfl rfl rfl rfl (pqD)) ?_
  rintro _ _ ⟨_, ⟨rfl, rfl⟩, rfl⟩
  refine WL_val rfl rfl rfl (R_move rfl rfl) ?_
  refine WL_val rfl rfl rfl (R_extract rfl rfl rfl) ?_
  refine WL_val rfl rfl rfl (R_extract rfl rfl rfl) ?_
  refine WL_val rfl rfl rfl (R_assign rfl rfl) ?_
  refine WL_val rfl rfl rfl (R_assign rfl rfl) ?_
  refine WL_nil ?_
  refine WQ_code ?_
  refine WC_seq ?_
  refine WC_block ?_
  refine WC_seq ?_
  refine WC_region ?_
  refine WL_val rfl rfl rfl (R_move rfl rfl) ?_
  refine WL_val rfl rfl rfl (R_neq rfl rfl rfl) ?_
  refine WL_val rfl rfl rfl (R_assign rfl rfl) ?_
  refine WL_nil ?_
  refine WQ_code ?_
  refine WC_dF rfl (by decide) ?_
  refine WC_seq ?_
  refine WC_region ?_
  refine WL_val rfl rfl rfl (R_move rfl rfl) ?_
  refine WL_val rfl rfl rfl (R_gtr rfl rfl rfl) ?_
  refine WL_set (s := 30) (v := .bool true) rfl (by rfl) ?_
  refine WL_val rfl rfl rfl (R_move rfl rfl) ?_
  refine WL_val rfl rfl rfl (R_move rfl rfl) ?_
  refine WL_val rfl rfl rfl (R_nilCheck rfl rfl) ?_
  refine WL_val rfl rfl rfl (R_fieldAddr rfl fa96_2 rfl) ?_
  refine WL_val rfl rfl rfl (R_load rfl sc23 rfl (mmD) rfl) ?_
  refine WL_val rfl rfl rfl (R_len rfl Tryz.underlying23 rfl) ?_
  refine WL_val rfl rfl rfl (R_eql rfl rfl rfl) ?_
  refine WL_set (s := 37) (v := .bool true) rfl (by exact congrArg Value.bool (decide_eq_true (by omega))) ?_
  refine WL_val rfl rfl rfl (R_pickT rfl rfl rfl) ?_
  refine WL_val rfl rfl rfl (R_move rfl rfl) ?_
  refine WL_val rfl rfl rfl (R_move rfl rfl) ?_
  refine WL_val rfl rfl rfl (R_nilCheck rfl rfl) ?_
  refine WL_val rfl rfl rfl (R_fieldAddr rfl fa96_0 rfl) ?_
  refine WL_val rfl rfl rfl (R_fieldAddr rfl fa94_3 rfl) ?_
  refine WL_val rfl rfl rfl (R_load rfl sc4 rfl (mmD) rfl) ?_
  refine WL_val rfl rfl rfl (R_pickT rfl rfl rfl) ?_
  refine WL_set (s := 45) (v := .bool false) rfl (by rfl) ?_
  refine WL_val rfl rfl rfl (R_assign rfl rfl) ?_
  refine WL_nil ?_
  refine WQ_code ?_
  refine WC_F rfl ?_
  refine WC_seq ?_
  refine WC_region ?_
  refine WL_val rfl rfl rfl (R_move rfl rfl) ?_
  refine WL_val rfl rfl rfl (R_gtr rfl rfl rfl) ?_
  refine WL_set (s := 48) (v := .bool true) rfl (by rfl) ?_
  refine WL_val rfl rfl rfl (R_move rfl rfl) ?_
  refine WL_val rfl rfl rfl (R_move rfl rfl) ?_
  refine WL_val rfl rfl rfl (R_nilCheck rfl rfl) ?_
  refine WL_val rfl rfl rfl (R_fieldAddr rfl fa96_2 rfl) ?_
  refine WL_val rfl rfl rfl (R_load rfl sc23 rfl (mmD) rfl) ?_
  refine WL_val rfl rfl rfl (R_len rfl Tryz.underlying23 rfl) ?_
  refine WL_val rfl rfl rfl (R_eql rfl rfl rfl) ?_
  refine WL_set (s := 55) (v := .bool true) rfl (by exact congrArg Value.bool (decide_eq_true (by omega))) ?_
  refine WL_val rfl rfl rfl (R_pickT rfl rfl rfl) ?_
  refine WL_val rfl rfl rfl (R_assign rfl rfl) ?_
  refine WL_nil ?_
  refine WQ_code ?_
  refine WC_T rfl ?_
  refine WC_seq ?_
  refine WC_region ?_
  refine WL_val rfl rfl rfl (R_assign rfl rfl) ?_
  refine WL_val rfl rfl rfl (R_assign rfl rfl) ?_
  refine WL_nil ?_
  refine WQ_code ?_
  refine WC_ret ?_
  refine WQ_ret rfl rfl (.cons (.tmp rfl) (.cons (.tmp rfl) .nil)) rfl (by
      exact ⟨rfl, rfl⟩) (pqD)
end Go.Proofs.YtkcfgglmlogjbaaGreat
end
section
set_option linter.unusedVariables false
set_option maxRecDepth 20000
set_option maxHeartbeats 4000000
namespace Go.Proofs.YtkcfgglmlogjbaaGreat
theorem mread1_ok {m : MxM} {x : MxX} (h : MxIs m x) {n : Nat} (hn : min (100 : Int) (x.un.length : Int) = (n : Int)) (hn0 : 0 < n) (hul : x.un.length ≤ 100000) (hs : 2 * (x.cr + n) < x.win) : Spec Tryz.prog 35 [ptrW m.p, .int .i64 1, .int .i64 100] [mxE m x, mxM m, mxS m x, mxU m x, mxO m x] (fun r H' => ∃ o c2 tl2 uk' uc' up', r = .tuple #[slV o n c2, .int .i64 0] ∧ Own o n c2 1 (bvs (x.un.take n)) tl2 ∧ MxIs { m with uk := uk', uc := uc', up := up' } { x with un := x.un.drop n, cr := x.cr + n } ∧ H' = [mxE ({ m with uk := uk', uc := uc', up := up' }) ({ x with un := x.un.drop n, cr := x.cr + n }), mxM ({ m with uk := uk', uc := uc', up := up' }), mxS ({ m with uk := uk', uc := uc', up := up' }) ({ x with un := x.un.drop n, cr := x.cr + n }), mxU ({ m with uk := uk', uc := uc', up := up' }) ({ x with un := x.un.drop n, cr := x.cr + n }), mxO ({ m with uk := uk', uc := uc', up := up' }) ({ x with un := x.un.drop n, cr := x.cr + n })] ++ [⟨o, cl (bvs (x.un.take n) ++ tl2) 5⟩]) := by
  have hO := h.uO
  have hb := h.b
  have hw := h.w
  have hnl : n ≤ x.un.length ∧ n ≤ 100 := by omega
  refine Spec.of (E := [(0, ptrW m.p), (1, .int .i64 1), (2, .int .i64 100)]) Tryz.func35 rfl (by kernel_rfl) Tryz.ntmps35 rfl rfl (fun w => ?_)
  refine WC_seq ?_
  refine WC_region ?_
  refine WL_val rfl rfl rfl (R_assign rfl rfl) ?_
  refine WL_val rfl rfl rfl (R_assign rfl rfl) ?_
  refine WL_nil ?_
  refine WQ_code ?_
  refine WC_seq ?_
  refine WC_region ?_
  refine WL_val rfl rfl rfl (R_move rfl rfl) ?_
  refine WL_val rfl rfl rfl (R_move rfl rfl) ?_
  refine WL_val rfl rfl rfl (R_move rfl rfl) ?_
  refine WL_val rfl rfl rfl (R_geq rfl rfl rfl) ?_
  refine WL_set (s := 16) (v := .bool true) rfl (by rfl) ?_
  refine WL_val rfl rfl rfl (R_move rfl rfl) ?_
  refine WL_val rfl rfl rfl (R_move rfl rfl) ?_
  refine WL_val rfl rfl rfl (R_leq rfl rfl rfl) ?_
  refine WL_set (s := 19) (v := .bool true) rfl (by rfl) ?_
  refine WL_val rfl rfl rfl (R_pickT rfl rfl rfl) ?_
  refine WL_do rfl rfl rfl (D_call (mlive_ok h) rfl rfl rfl rfl (pqD)) ?_
  rintro _ _ ⟨_, ⟨rfl, rfl⟩, rfl⟩
  refine WL_val rfl rfl rfl (R_move rfl rfl) ?_
  refine WL_val rfl rfl rfl (R_extract rfl rfl rfl) ?_
  refine WL_val rfl rfl rfl (R_extract rfl rfl rfl) ?_
  refine WL_val rfl rfl rfl (R_assign rfl rfl) ?_
  refine WL_val rfl rfl rfl (R_assign rfl rfl) ?_
  refine WL_nil ?_
  refine WQ_code ?_
  refine WC_seq ?_
  refine WC_block ?_
  refine WC_seq ?_
  refine WC_region ?_
  refine WL_val rfl rfl rfl (R_move rfl rfl) ?_
  refine WL_val rfl rfl rfl (R_neq rfl rfl rfl) ?_
  refine WL_val rfl rfl rfl (R_assign rfl rfl) ?_
  refine WL_nil ?_
  refine WQ_code ?_
  refine WC_dF rfl (by decide) ?_
  refine WC_seq ?_
  refine WC_region ?_
  refine WL_val rfl rfl rfl (R_move rfl rfl) ?_
  refine WL_val rfl rfl rfl (R_gtr rfl rfl rfl) ?_
  refine WL_set (s := 30) (v := .bool true) rfl (by rfl) ?_
  refine WL_val rfl rfl rfl (R_move rfl rfl) ?_
  refine WL_val rfl rfl rfl (R_move rfl rfl) ?_
  refine WL_val rfl rfl rfl (R_nilCheck rfl rfl) ?_
  refine WL_val rfl rfl rfl (R_fieldAddr rfl fa96_2 rfl) ?_
  refine WL_val rfl rfl rfl (R_load rfl sc23 rfl (mmD) rfl) ?_
  refine WL_val rfl rfl rfl (R_len rfl Tryz.underlying23 rfl) ?_
  refine WL_val rfl rfl rfl (R_eql rfl rfl rfl) ?_
  refine WL_set (s := 37) (v := .bool false) rfl (by exact congrArg Value.bool (decide_eq_false (by omega))) ?_
  refine WL_val rfl rfl rfl (R_pickT rfl rfl rfl) ?_
  refine WL_val rfl rfl rfl (R_move rfl rfl) ?_
  refine WL_skip rfl rfl rfl ?_
  refine WL_skip rfl rfl rfl ?_
  refine WL_skip rfl rfl rfl ?_
  refine WL_skip rfl rfl rfl ?_
  refine WL_skip rfl rfl rfl ?_
  refine WL_val rfl rfl rfl (R_pickF rfl rfl rfl) ?_
  refine WL_val rfl rfl rfl (R_assign rfl rfl) ?_
  refine WL_nil ?_
  refine WQ_code ?_
  refine WC_F rfl ?_
  refine WC_seq ?_
  refine WC_region ?_
  refine WL_val rfl rfl rfl (R_move rfl rfl) ?_
  refine WL_val rfl rfl rfl (R_gtr rfl rfl rfl) ?_
  refine WL_set (s := 48) (v := .bool true) rfl (by rfl) ?_
  refine WL_val rfl rfl rfl (R_move rfl rfl) ?_
  refine WL_val rfl rfl rfl (R_move rfl rfl) ?_
  refine WL_val rfl rfl rfl (R_nilCheck rfl rfl) ?_
  refine WL_val rfl rfl rfl (R_fieldAddr rfl fa96_2 rfl) ?_
  refine WL_val rfl rfl rfl (R_load rfl sc23 rfl (mmD) rfl) ?_
  refine WL_val rfl rfl rfl (R_len rfl Tryz.underlying23 rfl) ?_
  refine WL_val rfl rfl rfl (R_eql rfl rfl rfl) ?_
  refine WL_set (s := 55) (v := .bool false) rfl (by exact congrArg Value.bool (decide_eq_false (by omega))) ?_
  refine WL_val rfl rfl rfl (R_pickT rfl rfl rfl) ?_
  refine WL_val rfl rfl rfl (R_assign rfl rfl) ?_
  refine WL_nil ?_
  refine WQ_code ?_
  refine WC_F rfl ?_
  refine WC_skip ?_
  refine WQ_code ?_
  refine WC_seq ?_
  refine WC_region ?_
  refine WL_val rfl rfl rfl (R_move rfl rfl) ?_
  refine WL_val rfl rfl rfl (R_move rfl rfl) ?_
  refine WL_val rfl rfl rfl (R_nilCheck rfl rfl) ?_
  refine WL_val rfl rfl rfl (R_fieldAddr rfl fa96_2 rfl) ?_
  refine WL_val rfl rfl rfl (R_load rfl sc23 rfl (mmD) rfl) ?_
  refine WL_val rfl rfl rfl (R_len rfl Tryz.underlying23 rfl) ?_
  refine WL_val rfl rfl rfl (R_minR (r := (n : Int)) rfl rfl rfl hn) ?_
  refine WL_val rfl rfl rfl (R_assign rfl rfl) ?_
  refine WL_nil ?_
  refine WQ_code ?_
  refine WC_seq ?_
  refine WC_region ?_
  refine WL_val rfl rfl rfl (R_move rfl rfl) ?_
  refine WL_val rfl rfl rfl (R_nilCheck rfl rfl) ?_
  refine WL_val rfl rfl rfl (R_fieldAddr rfl fa96_2 rfl) ?_
  refine WL_val rfl rfl rfl (R_load rfl sc23 rfl (mmD) rfl) ?_
  refine WL_val rfl rfl rfl (R_move rfl rfl) ?_
  refine WL_val rfl rfl rfl (R_sliceTo (m := n) rfl Tryz.underlying23 Tryz.sizeOf5 rfl rfl (by have := hO.le; omega)) ?_
  refine WL_set (s := 69) (v := .slice (m.ub.map fun b => ⟨b, m.uk, none⟩) (x.un.take n).length m.uc) rfl (by rw [show (x.un.take n).length = n from by rw [List.length_take]; omega]) ?_
  refine WL_do rfl rfl rfl (D_call (clone_any ((RdB.ownS hO).take n) (by simp; omega) (fun e => (hO.nil (by simpa using e)).1)) rfl rfl rfl rfl (pqD)) ?_
  rintro _ _ ⟨_, ⟨o9, c9, tl9, rfl, own9, rfl⟩, rfl⟩
  rw [show (x.un.take n).length = n from by rw [List.length_take]; omega] at own9 ⊢
  refine WL_val rfl rfl rfl (R_assign rfl rfl) ?_
  refine WL_nil ?_
  refine WQ_code ?_
  refine WC_seq ?_
  refine WC_region ?_
  refine WL_val rfl rfl rfl (R_move rfl rfl) ?_
  refine WL_val rfl rfl rfl (R_move rfl rfl) ?_
  refine WL_val rfl rfl rfl (R_nilCheck rfl rfl) ?_
  refine WL_val rfl rfl rfl (R_fieldAddr rfl fa96_2 rfl) ?_
  refine WL_val rfl rfl rfl (R_load rfl sc23 rfl (mmD) rfl) ?_
  refine WL_val rfl rfl rfl (R_move rfl rfl) ?_
  refine WL_val rfl rfl rfl (R_cutB (m := n) hO rfl Tryz.underlying23 Tryz.sizeOf5 rfl rfl (by omega)) ?_
  have hcut := hO.cutB (m := n) (by omega)
  rw [cutB_ent m.up m.ut x.un n]
  refine WL_val rfl rfl rfl (R_nilCheck rfl rfl) ?_
  refine WL_val rfl rfl rfl (R_fieldAddr rfl fa96_2 rfl) ?_
  refine WL_do0 rfl rfl (D_store (vs := [_]) rfl Tryz.sizeOf23 rfl rfl rfl rfl rfl (plD) (by exact Nat.le_of_ble_eq_true rfl)) ?_
  rintro _ _ rfl
  refine WL_nil ?_
  refine WQ_code ?_
  refine WC_seq ?_
  refine WC_region ?_
  refine WL_val rfl rfl rfl (R_move rfl rfl) ?_
  refine WL_val rfl rfl rfl (R_nilCheck rfl rfl) ?_
  refine WL_val rfl rfl rfl (R_fieldAddr rfl fa96_3 rfl) ?_
  refine WL_val rfl rfl rfl (R_load rfl sc3 rfl (mmD) rfl) ?_
  refine WL_val rfl rfl rfl (R_move rfl rfl) ?_
  refine WL_val rfl rfl rfl (R_addR (r := ((x.cr + n : Nat) : Int)) rfl rfl rfl (by rw [wrap64_in (by omega) (by omega)]; omega)) ?_
  refine WL_val rfl rfl rfl (R_nilCheck rfl rfl) ?_
  refine WL_val rfl rfl rfl (R_fieldAddr rfl fa96_3 rfl) ?_
  refine WL_do0 rfl rfl (D_store (vs := [_]) rfl Tryz.sizeOf3 rfl rfl rfl rfl rfl (plD) (by exact Nat.le_of_ble_eq_true rfl)) ?_
  rintro _ _ rfl
  refine WL_nil ?_
  refine WQ_code ?_
  refine WC_seq ?_
  refine WC_seq ?_
  refine WC_draw _ [(0, true), (1, true), (2, true), (3, true), (4, true), (5, true), (6, true), (7, true), (8, true), (9, true), (10, true), (11, true), (12, true), (13, true), (14, true), (15, true), (16, true), (17, true)] followsMixed rfl rfl (by kernel_rfl) .all ?_
  refine WM_val rfl rfl rfl rfl (R_move rfl rfl) ?_
  refine WM_val rfl rfl rfl rfl (R_nilCheck rfl rfl) ?_
  refine WM_val rfl rfl rfl rfl (R_fieldAddr rfl fa96_3 rfl) ?_
  refine WM_val rfl rfl rfl rfl (R_load rfl sc3 rfl (mmD) rfl) ?_
  refine WM_val rfl rfl rfl rfl (R_mulR (r := ((2 * (x.cr + n) : Nat) : Int)) rfl rfl rfl (by rw [wrap64_in (by omega) (by omega)]; omega)) ?_
  refine WM_val rfl rfl rfl rfl (R_move rfl rfl) ?_
  refine WM_val rfl rfl rfl rfl (R_nilCheck rfl rfl) ?_
  refine WM_val rfl rfl rfl rfl (R_fieldAddr rfl fa70_0 rfl) ?_
  refine WM_val rfl rfl rfl rfl (R_load rfl sc3 rfl (mmD) rfl) ?_
  refine WM_val rfl rfl rfl rfl (R_geq rfl rfl rfl) ?_
  refine WM_set (s := 97) (v := .bool false) rfl (by exact congrArg Value.bool (decide_eq_false (by omega))) ?_
  refine WM_val rfl rfl rfl rfl (R_move rfl rfl) ?_
  refine WM_skip rfl rfl rfl rfl ?_
  refine WM_skip rfl rfl rfl rfl ?_
  refine WM_skip rfl rfl rfl rfl ?_
  refine WM_skip rfl rfl rfl rfl ?_
  refine WM_skip rfl rfl rfl rfl ?_
  refine WM_skip rfl rfl rfl rfl ?_
  refine WM_val rfl rfl rfl rfl (R_pickF rfl rfl rfl) ?_
  refine WM_nil ?_
  refine WQ_code ?_
  refine WC_F rfl ?_
  refine WC_skip ?_
  refine WQ_code ?_
  refine WC_seq ?_
  refine WC_region ?_
  refine WL_val rfl rfl rfl (R_move rfl rfl) ?_
  refine WL_val rfl rfl rfl (R_assign rfl rfl) ?_
  refine WL_val rfl rfl rfl (R_assign rfl rfl) ?_
  refine WL_nil ?_
  refine WQ_code ?_
  refine WC_ret ?_
  refine WQ_ret rfl rfl (.cons (.tmp rfl) (.cons (.tmp rfl) .nil)) rfl (by
      exact ⟨o9, c9, tl9, (if m.uc = n then m.uk else m.uk + n), m.uc - n, m.up ++ bvs (x.un.take n), rfl, own9, ⟨h.mp, h.oO, hcut, h.rO, h.oo, h.w, by dsimp only; omega⟩, rfl⟩) (pqD)
theorem mread2_ok {m : MxM} {x : MxX} (h : MxIs m x) {n : Nat} (hn : min (100 : Int) (x.un.length : Int) = (n : Int)) (hn0 : 0 < n) (hul : x.un.length ≤ 100000) (hs : x.win ≤ 2 * (x.cr + n)) (hout : x.out.length ≤ 1000000) (hrc : x.rcv + (x.cr + n) ≤ 10000) : Spec Tryz.prog 35 [ptrW m.p, .int .i64 1, .int .i64 100] [mxE m x, mxM m, mxS m x, mxU m x, mxO m x] (fun r H' => ∃ o c2 tl2 uk' uc' up' ob' ok' oc' op' ot', r = .tuple #[slV o n c2, .int .i64 0] ∧ Own o n c2 1 (bvs (x.un.take n)) tl2 ∧ MxIs { m with uk := uk', uc := uc', up := up', ob := ob', ok := ok', oc := oc', op := op', ot := ot' } { x with un := x.un.drop n, cr := 0, rcv := x.rcv + (x.cr + n), out := x.out ++ encF 3 (bigB 1 4 ++ bigB (x.cr + n) 4) } ∧ H' = [mxE ({ m with uk := uk', uc := uc', up := up', ob := ob', ok := ok', oc := oc', op := op', ot := ot' }) ({ x with un := x.un.drop n, cr := 0, rcv := x.rcv + (x.cr + n), out := x.out ++ encF 3 (bigB 1 4 ++ bigB (x.cr + n) 4) }), mxM ({ m with uk := uk', uc := uc', up := up', ob := ob', ok := ok', oc := oc', op := op', ot := ot' }), mxS ({ m with uk := uk', uc := uc', up := up', ob := ob', ok := ok', oc := oc', op := op', ot := ot' }) ({ x with un := x.un.drop n, cr := 0, rcv := x.rcv + (x.cr + n), out := x.out ++ encF 3 (bigB 1 4 ++ bigB (x.cr + n) 4) }), mxU ({ m with uk := uk', uc := uc', up := up', ob := ob', ok := ok', oc := oc', op := op', ot := ot' }) ({ x with un := x.un.drop n, cr := 0, rcv := x.rcv + (x.cr + n), out := x.out ++ encF 3 (bigB 1 4 ++ bigB (x.cr + n) 4) }), mxO ({ m with uk := uk', uc := uc', up := up', ob := ob', ok := ok', oc := oc', op := op', ot := ot' }) ({ x with un := x.un.drop n, cr := 0, rcv := x.rcv + (x.cr + n), out := x.out ++ encF 3 (bigB 1 4 ++ bigB (x.cr + n) 4) })] ++ [⟨o, cl (bvs (x.un.take n) ++ tl2) 5⟩]) := by
  have hO := h.uO
  have hb := h.b
  have hw := h.w
  have hnl : n ≤ x.un.length ∧ n ≤ 100 := by omega
  refine Spec.of (E := [(0, ptrW m.p), (1, .int .i64 1), (2, .int .i64 100)]) Tryz.func35 rfl (by kernel_rfl) Tryz.ntmps35 rfl rfl (fun w => ?_)
  refine WC_seq ?_
  refine WC_region ?_
  refine WL_val rfl rfl rfl (R_assign rfl rfl) ?_
  refine WL_val rfl rfl rfl (R_assign rfl rfl) ?_
  refine WL_nil ?_
  refine WQ_code ?_
  refine WC_seq ?_
  refine WC_region ?_
  refine WL_val rfl rfl rfl (R_move rfl rfl) ?_
  refine WL_val rfl rfl rfl (R_move rfl rfl) ?_
  refine WL_val rfl rfl rfl (R_move rfl rfl) ?_
  refine WL_val rfl rfl rfl (R_geq rfl rfl rfl) ?_
  refine WL_set (s := 16) (v := .bool true) rfl (by rfl) ?_
  refine WL_val rfl rfl rfl (R_move rfl rfl) ?_
  refine WL_val rfl rfl rfl (R_move rfl rfl) ?_
  refine WL_val rfl rfl rfl (R_leq rfl rfl rfl) ?_
  refine WL_set (s := 19) (v := .bool true) rfl (by rfl) ?_
  refine WL_val rfl rfl rfl (R_pickT rfl rfl rfl) ?_
  refine WL_do rfl rfl rfl (D_call (mlive_ok h) rfl rfl rfl rfl (pqD)) ?_
  rintro _ _ ⟨_, ⟨rfl, rfl⟩, rfl⟩
  refine WL_val rfl rfl rfl (R_move rfl rfl) ?_
  refine WL_val rfl rfl rfl (R_extract rfl rfl rfl) ?_
  refine WL_val rfl rfl rfl (R_extract rfl rfl rfl) ?_
  refine WL_val rfl rfl rfl (R_assign rfl rfl) ?_
  refine WL_val rfl rfl rfl (R_assign rfl rfl) ?_
  refine WL_nil ?_
  refine WQ_code ?_
  refine WC_seq ?_
  refine WC_block ?_
  refine WC_seq ?_
  refine WC_region ?_
  refine WL_val rfl rfl rfl (R_move rfl rfl) ?_
  refine WL_val rfl rfl rfl (R_neq rfl rfl rfl) ?_
  refine WL_val rfl rfl rfl (R_assign rfl rfl) ?_
  refine WL_nil ?_
  refine WQ_code ?_
  refine WC_dF rfl (by decide) ?_
  refine WC_seq ?_
  refine WC_region ?_
  refine WL_val rfl rfl rfl (R_move rfl rfl) ?_
  refine WL_val rfl rfl rfl (R_gtr rfl rfl rfl) ?_
  refine WL_set (s := 30) (v := .bool true) rfl (by rfl) ?_
  refine WL_val rfl rfl rfl (R_move rfl rfl) ?_
  refine WL_val rfl rfl rfl (R_move rfl rfl) ?_
  refine WL_val rfl rfl rfl (R_nilCheck rfl rfl) ?_
  refine WL_val rfl rfl rfl (R_fieldAddr rfl fa96_2 rfl) ?_
  refine WL_val rfl rfl rfl (R_load rfl sc23 rfl (mmD) rfl) ?_
  refine WL_val rfl rfl rfl (R_len rfl Tryz.underlying23 rfl) ?_
  refine WL_val rfl rfl rfl (R_eql rfl rfl rfl) ?_
  refine WL_set (s := 37) (v := .bool false) rfl (by exact congrArg Value.bool (decide_eq_false (by omega))) ?_
  refine WL_val rfl rfl rfl (R_pickT rfl rfl rfl) ?_
  refine WL_val rfl rfl rfl (R_move rfl rfl) ?_
  refine WL_skip rfl rfl rfl ?_
  refine WL_skip rfl rfl rfl ?_
  refine WL_skip rfl rfl rfl ?_
  refine WL_skip rfl rfl rfl ?_
  refine WL_skip rfl rfl rfl ?_
  refine WL_val rfl rfl rfl (R_pickF rfl rfl rfl) ?_
  refine WL_val rfl rfl rfl (R_assign rfl rfl) ?_
  refine WL_nil ?_
  refine WQ_code ?_
  refine WC_F rfl ?_
  refine WC_seq ?_
  refine WC_region ?_
  refine WL_val rfl rfl rfl (R_move rfl rfl) ?_
  refine WL_val rfl rfl rfl (R_gtr rfl rfl rfl) ?_
  refine WL_set (s := 48) (v := .bool true) rfl (by rfl) ?_
  refine WL_val rfl rfl rfl (R_move rfl rfl) ?_
  refine WL_val rfl rfl rfl (R_move rfl rfl) ?_
  refine WL_val rfl rfl rfl (R_nilCheck rfl rfl) ?_
  refine WL_val rfl rfl rfl (R_fieldAddr rfl fa96_2 rfl) ?_
  refine WL_val rfl rfl rfl (R_load rfl sc23 rfl (mmD) rfl) ?_
  refine WL_val rfl rfl rfl (R_len rfl Tryz.underlying23 rfl) ?_
  refine WL_val rfl rfl rfl (R_eql rfl rfl rfl) ?_
  refine WL_set (s := 55) (v := .bool false) rfl (by exact congrArg Value.bool (decide_eq_false (by omega))) ?_
  refine WL_val rfl rfl rfl (R_pickT rfl rfl rfl) ?_
  refine WL_val rfl rfl rfl (R_assign rfl rfl) ?_
  refine WL_nil ?_
  refine WQ_code ?_
  refine WC_F rfl ?_
  refine WC_skip ?_
  refine WQ_code ?_
  refine WC_seq ?_
  refine WC_region ?_
  refine WL_val rfl rfl rfl (R_move rfl rfl) ?_
  refine WL_val rfl rfl rfl (R_move rfl rfl) ?_
  refine WL_val rfl rfl rfl (R_nilCheck rfl rfl) ?_
  refine WL_val rfl rfl rfl (R_fieldAddr rfl fa96_2 rfl) ?_
  refine WL_val rfl rfl rfl (R_load rfl sc23 rfl (mmD) rfl) ?_
  refine WL_val rfl rfl rfl (R_len rfl Tryz.underlying23 rfl) ?_
  refine WL_val rfl rfl rfl (R_minR (r := (n : Int)) rfl rfl rfl hn) ?_
  refine WL_val rfl rfl rfl (R_assign rfl rfl) ?_
  refine WL_nil ?_
  refine WQ_code ?_
  refine WC_seq ?_
  refine WC_region ?_
  refine WL_val rfl rfl rfl (R_move rfl rfl) ?_
  refine WL_val rfl rfl rfl (R_nilCheck rfl rfl) ?_
  refine WL_val rfl rfl rfl (R_fieldAddr rfl fa96_2 rfl) ?_
  refine WL_val rfl rfl rfl (R_load rfl sc23 rfl (mmD) rfl) ?_
  refine WL_val rfl rfl rfl (R_move rfl rfl) ?_
  refine WL_val rfl rfl rfl (R_sliceTo (m := n) rfl Tryz.underlying23 Tryz.sizeOf5 rfl rfl (by have := hO.le; omega)) ?_
  refine WL_set (s := 69) (v := .slice (m.ub.map fun b => ⟨b, m.uk, none⟩) (x.un.take n).length m.uc) rfl (by rw [show (x.un.take n).length = n from by rw [List.length_take]; omega]) ?_
  refine WL_do rfl rfl rfl (D_call (clone_any ((RdB.ownS hO).take n) (by simp; omega) (fun e => (hO.nil (by simpa using e)).1)) rfl rfl rfl rfl (pqD)) ?_
  rintro _ _ ⟨_, ⟨o9, c9, tl9, rfl, own9, rfl⟩, rfl⟩
  rw [show (x.un.take n).length = n from by rw [List.length_take]; omega] at own9 ⊢
  refine WL_val rfl rfl rfl (R_assign rfl rfl) ?_
  refine WL_nil ?_
  refine WQ_code ?_
  refine WC_seq ?_
  refine WC_region ?_
  refine WL_val rfl rfl rfl (R_move rfl rfl) ?_
  refine WL_val rfl rfl rfl (R_move rfl rfl) ?_
  refine WL_val rfl rfl rfl (R_nilCheck rfl rfl) ?_
  refine WL_val rfl rfl rfl (R_fieldAddr rfl fa96_2 rfl) ?_
  refine WL_val rfl rfl rfl (R_load rfl sc23 rfl (mmD) rfl) ?_
  refine WL_val rfl rfl rfl (R_move rfl rfl) ?_
  refine WL_val rfl rfl rfl (R_cutB (m := n) hO rfl Tryz.underlying23 Tryz.sizeOf5 rfl rfl (by omega)) ?_
  have hcut := hO.cutB (m := n) (by omega)
  rw [cutB_ent m.up m.ut x.un n]
  refine WL_val rfl rfl rfl (R_nilCheck rfl rfl) ?_
  refine WL_val rfl rfl rfl (R_fieldAddr rfl fa96_2 rfl) ?_
  refine WL_do0 rfl rfl (D_store (vs := [_]) rfl Tryz.sizeOf23 rfl rfl rfl rfl rfl (plD) (by exact Nat.le_of_ble_eq_true rfl)) ?_
  rintro _ _ rfl
  refine WL_nil ?_
  refine WQ_code ?_
  refine WC_seq ?_
  refine WC_region ?_
  refine WL_val rfl rfl rfl (R_move rfl rfl) ?_
  refine WL_val rfl rfl rfl (R_nilCheck rfl rfl) ?_
  refine WL_val rfl rfl rfl (R_fieldAddr rfl fa96_3 rfl) ?_
  refine WL_val rfl rfl rfl (R_load rfl sc3 rfl (mmD) rfl) ?_
  refine WL_val rfl rfl rfl (R_move rfl rfl) ?_
  refine WL_val rfl rfl rfl (R_addR (r := ((x.cr + n : Nat) : Int)) rfl rfl rfl (by rw [wrap64_in (by omega) (by omega)]; omega)) ?_
  refine WL_val rfl rfl rfl (R_nilCheck rfl rfl) ?_
  refine WL_val rfl rfl rfl (R_fieldAddr rfl fa96_3 rfl) ?_
  refine WL_do0 rfl rfl (D_store (vs := [_]) rfl Tryz.sizeOf3 rfl rfl rfl rfl rfl (plD) (by exact Nat.le_of_ble_eq_true rfl)) ?_
  rintro _ _ rfl
  refine WL_nil ?_
  refine WQ_code ?_
  refine WC_seq ?_
  refine WC_seq ?_
  refine WC_draw _ [(0, true), (1, true), (2, true), (3, true), (4, true), (5, true), (6, true), (7, true), (8, true), (9, true), (10, true), (11, true), (12, true), (13, true), (14, true), (15, true), (16, true), (17, true)] followsMixed rfl rfl (by kernel_rfl) .all ?_
  refine WM_val rfl rfl rfl rfl (R_move rfl rfl) ?_
  refine WM_val rfl rfl rfl rfl (R_nilCheck rfl rfl) ?_
  refine WM_val rfl rfl rfl rfl (R_fieldAddr rfl fa96_3 rfl) ?_
  refine WM_val rfl rfl rfl rfl (R_load rfl sc3 rfl (mmD) rfl) ?_
  refine WM_val rfl rfl rfl rfl (R_mulR (r := ((2 * (x.cr + n) : Nat) : Int)) rfl rfl rfl (by rw [wrap64_in (by omega) (by omega)]; omega)) ?_
  refine WM_val rfl rfl rfl rfl (R_move rfl rfl) ?_
  refine WM_val rfl rfl rfl rfl (R_nilCheck rfl rfl) ?_
  refine WM_val rfl rfl rfl rfl (R_fieldAddr rfl fa70_0 rfl) ?_
  refine WM_val rfl rfl rfl rfl (R_load rfl sc3 rfl (mmD) rfl) ?_
  refine WM_val rfl rfl rfl rfl (R_geq rfl rfl rfl) ?_
  refine WM_set (s := 97) (v := .bool true) rfl (by exact congrArg Value.bool (decide_eq_true (by omega))) ?_
  refine WM_val rfl rfl rfl rfl (R_move rfl rfl) ?_
  refine WM_val rfl rfl rfl rfl (R_move rfl rfl) ?_
  refine WM_val rfl rfl rfl rfl (R_nilCheck rfl rfl) ?_
  refine WM_val rfl rfl rfl rfl (R_fieldAddr rfl fa96_0 rfl) ?_
  refine WM_val rfl rfl rfl rfl (R_fieldAddr rfl fa94_3 rfl) ?_
  refine WM_val rfl rfl rfl rfl (R_load rfl sc4 rfl (mmD) rfl) ?_
  refine WM_val rfl rfl rfl rfl (R_not rfl rfl) ?_
  refine WM_set (s := 104) (v := .bool true) rfl (by rfl) ?_
  refine WM_val rfl rfl rfl rfl (R_pickT rfl rfl rfl) ?_
  refine WM_nil ?_
  refine WQ_code ?_
  refine WC_T rfl ?_
  refine WC_seq ?_
  refine WC_drawR [mxE m x, mxO m x] [(0, true), (1, true), (3, true), (4, true), (5, true), (6, true), (2, false), (7, false), (8, false), (9, false)] followsMixed rfl rfl (by kernel_rfl) (pqD) ?_
  refine WM_val rfl rfl rfl rfl (R_move rfl rfl) ?_
  refine WM_val rfl rfl rfl rfl (R_move rfl rfl) ?_
  refine WM_val rfl rfl rfl rfl (R_move rfl rfl) ?_
  refine WM_val rfl rfl rfl rfl (R_nilCheck rfl rfl) ?_
  refine WM_val rfl rfl rfl rfl (R_fieldAddr rfl fa96_3 rfl) ?_
  refine WM_val rfl rfl rfl rfl (R_load rfl sc3 rfl (mmD) rfl) ?_
  refine WM_do rfl rfl rfl rfl (D_call (mbytes_ok 1 4 (by omega) (by omega)) rfl rfl rfl rfl (pqD)) ?_
  rintro _ _ ⟨_, ⟨b4, rfl, rfl⟩, rfl⟩
  refine ⟨⟨_, pqD⟩, ?_⟩
  refine WM_do rfl rfl rfl rfl (D_call (mbytes_ok (x.cr + n) 4 (by omega) (by omega)) rfl rfl rfl rfl (pqD)) ?_
  rintro _ _ ⟨_, ⟨b5, rfl, rfl⟩, rfl⟩
  refine ⟨⟨_, pqD⟩, ?_⟩
  refine WM_do rfl rfl rfl rfl (D_buildSlice rfl si22 rfl rfl rfl) ?_
  rintro _ _ ⟨b1, rfl, rfl⟩
  refine ⟨⟨_, pqD⟩, ?_⟩
  refine WM_do rfl rfl rfl rfl (D_call (msend_ok _ _ _ _ _ m.mb m.p (.map (some m.mb)) h.oO 3 b1 [⟨some ⟨b4, 0, none⟩, 4, bigB 1 4⟩, ⟨some ⟨b5, 0, none⟩, 4, bigB (x.cr + n) 4⟩] [⟨some b4, cl (bvs (bigB 1 4)) 5⟩, ⟨some b5, cl (bvs (bigB (x.cr + n) 4)) 5⟩] (by simp) (by simp) (parts2 (RdB.blk b4 _) (RdB.blk b5 _)) (short22 (by simp [bigB_len]) (by simp [bigB_len])) (by simp [joinL, bigB_len]) (by omega)) rfl rfl rfl rfl (pqD)) ?_
  rintro _ _ ⟨_, ⟨ob3, k3, c3, pre3, tl3, rfl, rfl, own3⟩, rfl⟩
  refine ⟨⟨_, pqD⟩, ?_⟩
  rw [show joinL [⟨some ⟨b4, 0, none⟩, 4, bigB 1 4⟩, ⟨some ⟨b5, 0, none⟩, 4, bigB (x.cr + n) 4⟩] = bigB 1 4 ++ bigB (x.cr + n) 4 from by simp [joinL]] at own3 ⊢
  refine WM_nil ?_
  refine WQ_code ?_
  refine WC_drawE [⟨some m.sp, _⟩] [(0, false), (1, false), (2, false), (3, false), (4, false), (5, true), (6, false), (7, false), (8, false), (9, true)] [(10, true), (11, true), (12, true), (13, false), (14, true), (15, true), (16, false)] followsMixed rfl rfl (by kernel_rfl) (pqD) ?_
  refine WZ_val rfl rfl rfl rfl (R_move rfl rfl) ?_
  refine WZ_val rfl rfl rfl rfl (R_move rfl rfl) ?_
  refine WZ_val rfl rfl rfl rfl (R_move rfl rfl) ?_
  refine WZ_val rfl rfl rfl rfl (R_nilCheck rfl rfl) ?_
  refine WZ_val rfl rfl rfl rfl (R_fieldAddr rfl fa96_1 rfl) ?_
  refine WZ_early rfl rfl rfl rfl (R_load rfl sc3 rfl (mmD) rfl) ?_
  refine WZ_val rfl rfl rfl rfl (R_move rfl rfl) ?_
  refine WZ_val rfl rfl rfl rfl (R_nilCheck rfl rfl) ?_
  refine WZ_val rfl rfl rfl rfl (R_fieldAddr rfl fa96_3 rfl) ?_
  refine WZ_early rfl rfl rfl rfl (R_load rfl sc3 rfl (mmD) rfl) ?_
  refine WZ_rest ?_
  refine WM_val rfl rfl rfl rfl (R_addR (r := ((x.rcv + (x.cr + n) : Nat) : Int)) rfl rfl rfl (by rw [wrap64_in (by omega) (by omega)]; omega)) ?_
  refine WM_val rfl rfl rfl rfl (R_nilCheck rfl rfl) ?_
  refine WM_val rfl rfl rfl rfl (R_fieldAddr rfl fa96_1 rfl) ?_
  refine WM_do0 rfl rfl rfl (D_store (vs := [_]) rfl Tryz.sizeOf3 rfl rfl rfl rfl rfl (plD) (by exact Nat.le_of_ble_eq_true rfl)) ?_
  rintro _ _ rfl
  refine ⟨⟨_, pqD⟩, ?_⟩
  refine WM_val rfl rfl rfl rfl (R_nilCheck rfl rfl) ?_
  refine WM_val rfl rfl rfl rfl (R_fieldAddr rfl fa96_3 rfl) ?_
  refine WM_do0 rfl rfl rfl (D_store (vs := [_]) rfl Tryz.sizeOf3 rfl rfl rfl rfl rfl (plD) (by exact Nat.le_of_ble_eq_true rfl)) ?_
  rintro _ _ rfl
  refine ⟨⟨_, pqD⟩, ?_⟩
  refine WM_nil ?_
  refine WQ_code ?_
  refine WC_seq ?_
  refine WC_region ?_
  refine WL_val rfl rfl rfl (R_move rfl rfl) ?_
  refine WL_val rfl rfl rfl (R_assign rfl rfl) ?_
  refine WL_val rfl rfl rfl (R_assign rfl rfl) ?_
  refine WL_nil ?_
  refine WQ_code ?_
  refine WC_ret ?_
  refine WQ_ret rfl rfl (.cons (.tmp rfl) (.cons (.tmp rfl) .nil)) rfl (by
      exact ⟨o9, c9, tl9, (if m.uc = n then m.uk else m.uk + n), m.uc - n, m.up ++ bvs (x.un.take n), ob3, k3, c3, pre3, tl3, rfl, own9, ⟨h.mp, own3, hcut, h.rO, h.oo, h.w, by dsimp only; omega⟩, rfl⟩) (pqD)
end Go.Proofs.YtkcfgglmlogjbaaGreat
end
section
set_option linter.unusedVariables false
set_option maxRecDepth 20000
set_option maxHeartbeats 4000000
namespace Go.Proofs.YtkcfgglmlogjbaaGreat
theorem ls_dec {α : Type} {l : List α} {k : Nat} {x : α} (h : l[k]? = some x) : l = l.take k ++ x :: l.drop (k + 1) := by
  obtain ⟨h2, rfl⟩ := List.getElem?_eq_some_iff.1 h
  rw [← List.drop_eq_getElem_cons h2, List.take_append_drop]
theorem ls_take {α : Type} {l : List α} {k : Nat} {x : α} (h : l[k]? = some x) : l.take (k + 1) = l.take k ++ [x] := by
  obtain ⟨h2, rfl⟩ := List.getElem?_eq_some_iff.1 h
  rw [List.take_append_getElem]
def chl (n j : Nat) : Nat := min 256 (n - 256 * j)
def chK (n : Nat) : Nat := (n + 255) / 256
abbrev encCh (b k n : Nat) (j : Nat) : List Value := [.slice (some ⟨b, k + 256 * j, none⟩) (chl n j) (chl n j)]
abbrev chV (bs bn : Nat) : Value := .func (.func 75) #[] #[ptrW bs, ptrW bn]
abbrev chH (b k n c bs bn : Nat) : Heap := [⟨some bs, cl [.slice (some ⟨b, k, none⟩) n c] 23⟩, ⟨some bn, cl [.int .i64 256] 3⟩]
theorem chunk_ok (b k n c : Nat) : Spec Tryz.prog 56 [.slice (some ⟨b, k, none⟩) n c, .int .i64 256] [] (fun r H' => ∃ bs bn, r = chV bs bn ∧ H' = chH b k n c bs bn) := by
  refine Spec.of (E := [(0, .slice (some ⟨b, k, none⟩) n c), (1, .int .i64 256)]) Tryz.func56 rfl (by kernel_rfl) Tryz.ntmps56 rfl rfl (fun w => ?_)
  refine WC_seq ?_
  refine WC_region ?_
  refine WL_do rfl rfl rfl (D_box (cs := [_]) rfl rfl rfl) ?_
  rintro _ _ ⟨b1, rfl, rfl⟩
  refine WL_do rfl rfl rfl (D_box (cs := [_]) rfl rfl rfl) ?_
  rintro _ _ ⟨b2, rfl, rfl⟩
  refine WL_val rfl rfl rfl (R_assign rfl rfl) ?_
  refine WL_nil ?_
  refine WQ_code ?_
  refine WC_seq ?_
  refine WC_seq ?_
  refine WC_region ?_
  refine WL_val rfl rfl rfl (R_load rfl sc3 rfl (mmZ) rfl) ?_
  refine WL_val rfl rfl rfl (R_lss rfl rfl rfl) ?_
  refine WL_nil ?_
  refine WQ_code ?_
  refine WC_dF rfl (by decide) ?_
  refine WC_skip ?_
  refine WQ_code ?_
  refine WC_seq ?_
  refine WC_region ?_
  refine WL_val rfl rfl rfl (R_makeFunc rfl rfl rfl) ?_
  refine WL_val rfl rfl rfl (R_assign rfl rfl) ?_
  refine WL_nil ?_
  refine WQ_code ?_
  refine WC_ret ?_
  refine WQ_ret rfl rfl (.cons (.tmp rfl) .nil) rfl (by
      exact ⟨_, _, rfl, rfl⟩) (pqZ)
theorem chit_ok (b k n c bs bn : Nat) (hn : n ≤ c) (hb : n ≤ 1000000) : IterSpec Tryz.prog 75 [ptrW bs, ptrW bn] (chH b k n c bs bn) (encCh b k n) (List.range (chK n)) := by
  intro lp J Jx hY hj h0
  refine Spec.of (E := [(0, yieldV lp), (1, ptrW bs), (2, ptrW bn)]) Tryz.func75 rfl (by kernel_rfl) Tryz.ntmps75 rfl rfl (fun w => ?_)
  refine WC_seq ?_
  refine WC_region ?_
  refine WL_val rfl rfl rfl (R_assign rfl rfl) ?_
  refine WL_nil ?_
  refine WQ_code ?_
  refine WC_block ?_
  refine WC_loopH (G := Nat × Heap) [4, 5, 6, 7, 8, 9, 10, 11, 12, 13, 14, 15, 16, 17, 18, 19, 20, 21, 22, 23, 24, 25, 26, 27, 28, 29, 30] (fun g => g.1 ≤ chK n ∧ J ((List.range (chK n)).take g.1) g.2) (fun g => [(4, .int .i64 ((256 * g.1 : Nat) : Int))]) (fun g => chH b k n c bs bn ++ g.2) (fun g => chK n - g.1) ((0, hj)) (⟨Nat.zero_le _, h0⟩) leZ (pqZ) ?_
  rintro g ⟨hk, hJ⟩
  obtain ⟨j, hj⟩ := g
  simp only at hk hJ ⊢
  refine WC_seq ?_
  refine WC_seq ?_
  refine WC_region ?_
  refine WL_val rfl rfl rfl (R_move rfl rfl) ?_
  refine WL_val rfl rfl rfl (R_load rfl sc23 rfl (mmZ) rfl) ?_
  refine WL_val rfl rfl rfl (R_len rfl Tryz.underlying23 rfl) ?_
  refine WL_val rfl rfl rfl (R_lss rfl rfl rfl) ?_
  refine WL_nil ?_
  refine WQ_code ?_
  refine WC_dec rfl (fun c1 => ?_) (fun c1 => ?_)
  · refine WC_skip ?_
    refine WQ_code ?_
    refine WC_seq ?_
    refine WC_block ?_
    refine WC_seq ?_
    refine WC_draw _ [(0, true), (1, true), (2, true), (3, true), (4, true), (5, true), (6, true)] followsMixed rfl rfl (by kernel_rfl) .all ?_
    have hjK : j < chK n := by unfold chK; omega
    have hx : (List.range (chK n))[j]? = some j := by simp [hjK]
    have hdec := ls_dec hx
    obtain ⟨ml, hml⟩ : ∃ ml, ml = chl n j := ⟨_, rfl⟩
    have hml2 : ml = min 256 (n - 256 * j) := hml
    refine WM_val rfl rfl rfl rfl (R_load rfl sc3 rfl (mmZ) rfl) ?_
    refine WM_val rfl rfl rfl rfl (R_load rfl sc23 rfl (mmZ) rfl) ?_
    refine WM_val rfl rfl rfl rfl (R_move rfl rfl) ?_
    refine WM_val rfl rfl rfl rfl (R_sliceFromK (m := 256 * j) rfl Tryz.underlying23 Tryz.sizeOf5 rfl rfl (by omega)) ?_
    refine WM_val rfl rfl rfl rfl (R_len rfl Tryz.underlying23 rfl) ?_
    refine WM_val rfl rfl rfl rfl (R_minR (r := (ml : Int)) rfl rfl rfl (by omega)) ?_
    refine WM_val rfl rfl rfl rfl (R_assign rfl rfl) ?_
    refine WM_nil ?_
    refine WQ_code ?_
    refine WC_seq ?_
    refine WC_region ?_
    refine WL_val rfl rfl rfl (R_move rfl rfl) ?_
    refine WL_val rfl rfl rfl (R_load rfl sc23 rfl (mmZ) rfl) ?_
    refine WL_val rfl rfl rfl (R_move rfl rfl) ?_
    refine WL_val rfl rfl rfl (R_move rfl rfl) ?_
    refine WL_val rfl rfl rfl (R_move rfl rfl) ?_
    refine WL_val rfl rfl rfl (R_addR (r := ((256 * j + ml : Nat) : Int)) rfl rfl rfl (by rw [wrap64_in (by omega) (by omega)]; omega)) ?_
    refine WL_val rfl rfl rfl (R_move rfl rfl) ?_
    refine WL_val rfl rfl rfl (R_move rfl rfl) ?_
    refine WL_val rfl rfl rfl (R_addR (r := ((256 * j + ml : Nat) : Int)) rfl rfl rfl (by rw [wrap64_in (by omega) (by omega)]; omega)) ?_
    refine WL_val rfl rfl rfl (R_slice4 (l := 256 * j) (h := 256 * j + ml) (m := 256 * j + ml) rfl Tryz.underlying23 Tryz.sizeOf5 rfl rfl rfl rfl (by omega) (Nat.le_refl _) (by omega)) ?_
    refine WL_set (s := 28) (v := .slice (some ⟨b, k + 256 * j, none⟩) (chl n j) (chl n j)) rfl (by rw [if_neg (by omega), Nat.add_sub_cancel_left, Nat.mul_one, hml]) ?_
    refine WL_do rfl rfl rfl (D_yield (F := [_, _]) (hY ((List.range (chK n)).take j) j ((List.range (chK n)).drop (j + 1)) hj hdec hJ) rfl rfl rfl rfl (List.Perm.refl _)) ?_
    rintro _ _ ⟨hj2, (⟨rfl, hJ2⟩ | ⟨rfl, hJ2⟩), rfl⟩
    · refine WL_val rfl rfl rfl (R_not rfl rfl) ?_
      refine WL_nil ?_
      refine WQ_code ?_
      refine WC_F rfl ?_
      refine WC_skip ?_
      refine WQ_code ?_
      refine WC_region ?_
      refine WL_val rfl rfl rfl (R_move rfl rfl) ?_
      refine WL_val rfl rfl rfl (R_load rfl sc3 rfl (mmZ) rfl) ?_
      refine WL_val rfl rfl rfl (R_addR (r := ((256 * (j + 1) : Nat) : Int)) rfl rfl rfl (by rw [wrap64_in (by omega) (by omega)]; omega)) ?_
      refine WL_val rfl rfl rfl (R_assign rfl rfl) ?_
      refine WL_nil ?_
      refine WQ_nextH (gg := (j, hj)) ((j + 1, hj2)) (⟨by (show j + 1 ≤ chK n); omega, by (show J ((List.range (chK n)).take (j + 1)) _); rw [ls_take hx]; exact hJ2⟩) (by (show chK n - (j + 1) < chK n - j); omega) leZ (psZ) rfl (pqZ)
    · refine WL_val rfl rfl rfl (R_not rfl rfl) ?_
      refine WL_nil ?_
      refine WQ_code ?_
      refine WC_T rfl ?_
      refine WC_ret ?_
      refine WQ_ret rfl rfl .nil rfl (by
          first | exact ⟨_, .inr ⟨_, hJ2⟩, rfl⟩ | (rw [List.take_of_length_le (by rw [List.length_range]; unfold chK; omega)] at hJ; exact ⟨_, .inl hJ, rfl⟩)) (pqZ)
  · refine WC_exit ?_
    refine WQ_ret rfl rfl .nil rfl (by
        first | exact ⟨_, .inr ⟨_, hJ2⟩, rfl⟩ | (rw [List.take_of_length_le (by rw [List.length_range]; unfold chK; omega)] at hJ; exact ⟨_, .inl hJ, rfl⟩)) (pqZ)
end Go.Proofs.YtkcfgglmlogjbaaGreat
end
section
set_option linter.unusedVariables false
set_option maxRecDepth 20000
set_option maxHeartbeats 4000000
namespace Go.Proofs.YtkcfgglmlogjbaaGreat
def wrC (T : Bs) (j : Nat) : Bs := (T.drop (256 * j)).take 256
def wrF (T : Bs) (js : List Nat) : List MF := js.map fun j => .dat (wrC T j)
def chunks (T : Bs) : List MF := wrF T (List.range (chK T.length))
theorem wrC_len (T : Bs) (j : Nat) : (wrC T j).length = chl T.length j := by unfold wrC chl; rw [List.length_take, List.length_drop]
theorem wrF_snoc (T : Bs) (js : List Nat) (j : Nat) : encM (wrF T (js ++ [j])) = encM (wrF T js) ++ encF 2 (bigB 1 4 ++ wrC T j) := by
  unfold wrF
  rw [List.map_append, encM_app]
  congr 1
  exact encA_one ⟨2, bigB 1 4 ++ wrC T j⟩
theorem rdB_sub {oa : Option Addr} {ent : Ent} {b k : Nat} {l : Bs} (h : RdB (some ⟨b, k, none⟩) ent l) (i n : Nat) : RdB (some ⟨b, k + i, none⟩) ent ((l.drop i).take n) := fun hl => by
  obtain ⟨b', k', cs, e, fr, h1, h2, hat⟩ := h (by rw [List.length_take, List.length_drop] at hl; omega)
  injection h1 with h1
  injection h1 with h3 h4
  subst h3 h4
  rw [h2]
  exact rd_sub (fr := fr) (e := e) hat hl
structure WrW where
  out : Bs
  ob : Option Nat
  ok : Nat
  oc : Nat
  op : List Value
  ot : List Value
theorem mwrite0_ok {m : MxM} {x : MxX} (h : MxIs m x) {P : Bs} {pb pk pc : Nat} {ent : Ent} (hP : RdB (some ⟨pb, pk, none⟩) ent P) (hpc : P.length ≤ pc) (hP0 : 0 < P.length) (hPl : P.length ≤ 65536) (hout : x.out.length ≤ 65536) (hs : x.snd = 0) : Spec Tryz.prog 34 [ptrW m.p, .int .i64 1, .slice (some ⟨pb, pk, none⟩) P.length pc] [mxE m x, mxM m, mxS m x, mxO m x, ent] (fun r H' => r = .tuple #[.int .i64 0, .int .i64 16] ∧ H' = [mxE m x, mxM m, mxS m x, mxO m x, ent]) := by
  refine Spec.ofM (E := [(0, ptrW m.p), (1, .int .i64 1), (2, .slice (some ⟨pb, pk, none⟩) P.length pc)]) Tryz.func34 rfl (by kernel_rfl) Tryz.ntmps34 rfl rfl (fun w => ?_)
  refine WC_seq ?_
  refine WC_region ?_
  refine WL_do rfl rfl rfl (D_box (cs := [_]) rfl rfl rfl) ?_
  rintro _ _ ⟨b1, rfl, rfl⟩
  refine WL_do rfl rfl rfl (D_box (cs := [_]) rfl rfl rfl) ?_
  rintro _ _ ⟨b2, rfl, rfl⟩
  refine WL_val rfl rfl rfl (R_assign rfl rfl) ?_
  refine WL_val rfl rfl rfl (R_assign rfl rfl) ?_
  refine WL_nil ?_
  refine WQ_code ?_
  refine WC_seq ?_
  refine WC_region ?_
  refine WL_val rfl rfl rfl (R_load rfl sc26 rfl (mmD) rfl) ?_
  refine WL_val rfl rfl rfl (R_load rfl sc3 rfl (mmD) rfl) ?_
  refine WL_val rfl rfl rfl (R_move rfl rfl) ?_
  refine WL_val rfl rfl rfl (R_len rfl Tryz.underlying23 rfl) ?_
  refine WL_val rfl rfl rfl (R_leq rfl rfl rfl) ?_
  refine WL_set (s := 17) (v := .bool true) rfl (by exact congrArg Value.bool (decide_eq_true (by omega))) ?_
  refine WL_do rfl rfl rfl (D_call (mlive_ok h) rfl rfl rfl rfl (pqD)) ?_
  rintro _ _ ⟨_, ⟨rfl, rfl⟩, rfl⟩
  refine WL_val rfl rfl rfl (R_move rfl rfl) ?_
  refine WL_val rfl rfl rfl (R_extract rfl rfl rfl) ?_
  refine WL_val rfl rfl rfl (R_extract rfl rfl rfl) ?_
  refine WL_val rfl rfl rfl (R_assign rfl rfl) ?_
  refine WL_val rfl rfl rfl (R_assign rfl rfl) ?_
  refine WL_nil ?_
  refine WQ_code ?_
  refine WC_seq ?_
  refine WC_block ?_
  refine WC_seq ?_
  refine WC_region ?_
  refine WL_val rfl rfl rfl (R_move rfl rfl) ?_
  refine WL_val rfl rfl rfl (R_neq rfl rfl rfl) ?_
  refine WL_val rfl rfl rfl (R_assign rfl rfl) ?_
  refine WL_nil ?_
  refine WQ_code ?_
  refine WC_dF rfl (by decide) ?_
  refine WC_seq ?_
  refine WC_region ?_
  refine WL_val rfl rfl rfl (R_move rfl rfl) ?_
  refine WL_val rfl rfl rfl (R_nilCheck rfl rfl) ?_
  refine WL_val rfl rfl rfl (R_fieldAddr rfl fa96_0 rfl) ?_
  refine WL_val rfl rfl rfl (R_fieldAddr rfl fa94_2 rfl) ?_
  refine WL_val rfl rfl rfl (R_load rfl sc4 rfl (mmD) rfl) ?_
  refine WL_val rfl rfl rfl (R_assign rfl rfl) ?_
  refine WL_nil ?_
  refine WQ_code ?_
  refine WC_F rfl ?_
  refine WC_seq ?_
  refine WC_region ?_
  refine WL_val rfl rfl rfl (R_load rfl sc26 rfl (mmD) rfl) ?_
  refine WL_do rfl rfl rfl (D_call (mfull_ok _ _ _ _ _ m.mb m.p h.oO hout) rfl rfl rfl rfl (pqD)) ?_
  rintro _ _ ⟨_, ⟨rfl, rfl⟩, rfl⟩
  refine WL_val rfl rfl rfl (R_neq rfl rfl rfl) ?_
  refine WL_val rfl rfl rfl (R_assign rfl rfl) ?_
  refine WL_nil ?_
  refine WQ_code ?_
  refine WC_dF rfl (by decide) ?_
  refine WC_seq ?_
  refine WC_region ?_
  refine WL_val rfl rfl rfl (R_move rfl rfl) ?_
  refine WL_val rfl rfl rfl (R_len rfl Tryz.underlying23 rfl) ?_
  refine WL_val rfl rfl rfl (R_gtr rfl rfl rfl) ?_
  refine WL_set (s := 38) (v := .bool true) rfl (by exact congrArg Value.bool (decide_eq_true (by omega))) ?_
  refine WL_val rfl rfl rfl (R_move rfl rfl) ?_
  refine WL_val rfl rfl rfl (R_move rfl rfl) ?_
  refine WL_val rfl rfl rfl (R_nilCheck rfl rfl) ?_
  refine WL_val rfl rfl rfl (R_fieldAddr rfl fa96_0 rfl) ?_
  refine WL_val rfl rfl rfl (R_fieldAddr rfl fa94_0 rfl) ?_
  refine WL_val rfl rfl rfl (R_load rfl sc3 rfl (mmD) rfl) ?_
  refine WL_val rfl rfl rfl (R_eql rfl rfl rfl) ?_
  refine WL_set (s := 45) (v := .bool true) rfl (by exact congrArg Value.bool (decide_eq_true (by omega))) ?_
  refine WL_val rfl rfl rfl (R_pickT rfl rfl rfl) ?_
  refine WL_val rfl rfl rfl (R_assign rfl rfl) ?_
  refine WL_nil ?_
  refine WQ_code ?_
  refine WC_T rfl ?_
  refine WC_seq ?_
  refine WC_region ?_
  refine WL_val rfl rfl rfl (R_assign rfl rfl) ?_
  refine WL_val rfl rfl rfl (R_assign rfl rfl) ?_
  refine WL_nil ?_
  refine WQ_code ?_
  refine WC_ret ?_
  refine WQ_retM0 rfl rfl (.cons (.tmp rfl) (.cons (.tmp rfl) .nil)) rfl (by
      exact ⟨rfl, rfl⟩) (pqD)
theorem mwrite1_ok {m : MxM} {x : MxX} (h : MxIs m x) {P : Bs} {pb pk pc : Nat} {ent : Ent} (hP : RdB (some ⟨pb, pk, none⟩) ent P) (hpc : P.length ≤ pc) (hP0 : 0 < P.length) (hPl : P.length ≤ 65536) (hout : x.out.length ≤ 65536) (hs : 0 < x.snd) {q : Nat} (hq : min (P.length : Int) (x.snd : Int) = (q : Int)) : Spec Tryz.prog 34 [ptrW m.p, .int .i64 1, .slice (some ⟨pb, pk, none⟩) P.length pc] [mxE m x, mxM m, mxS m x, mxO m x, ent]
    (fun r H' => ∃ ob' ok' oc' op' ot', r = .tuple #[.int .i64 (q : Int), .int .i64 0] ∧ MxIs ({ m with ob := ob', ok := ok', oc := oc', op := op', ot := ot' }) ({ x with out := x.out ++ encM (chunks (P.take q)), snd := x.snd - q }) ∧ H' = [mxE ({ m with ob := ob', ok := ok', oc := oc', op := op', ot := ot' }) ({ x with out := x.out ++ encM (chunks (P.take q)), snd := x.snd - q }), mxM ({ m with ob := ob', ok := ok', oc := oc', op := op', ot := ot' }), mxS ({ m with ob := ob', ok := ok', oc := oc', op := op', ot := ot' }) ({ x with out := x.out ++ encM (chunks (P.take q)), snd := x.snd - q }), mxO ({ m with ob := ob', ok := ok', oc := oc', op := op', ot := ot' }) ({ x with out := x.out ++ encM (chunks (P.take q)), snd := x.snd - q }), ent]) := by
  have hb := h.b
  have hq1 : 0 < q ∧ q ≤ P.length ∧ q ≤ x.snd := by omega
  have hTl : (P.take q).length = q := by rw [List.length_take]; omega
  refine Spec.ofM (E := [(0, ptrW m.p), (1, .int .i64 1), (2, .slice (some ⟨pb, pk, none⟩) P.length pc)]) Tryz.func34 rfl (by kernel_rfl) Tryz.ntmps34 rfl rfl (fun w => ?_)
  refine WC_seq ?_
  refine WC_region ?_
  refine WL_do rfl rfl rfl (D_box (cs := [_]) rfl rfl rfl) ?_
  rintro _ _ ⟨b1, rfl, rfl⟩
  refine WL_do rfl rfl rfl (D_box (cs := [_]) rfl rfl rfl) ?_
  rintro _ _ ⟨b2, rfl, rfl⟩
  refine WL_val rfl rfl rfl (R_assign rfl rfl) ?_
  refine WL_val rfl rfl rfl (R_assign rfl rfl) ?_
  refine WL_nil ?_
  refine WQ_code ?_
  refine WC_seq ?_
  refine WC_region ?_
  refine WL_val rfl rfl rfl (R_load rfl sc26 rfl (mmD) rfl) ?_
  refine WL_val rfl rfl rfl (R_load rfl sc3 rfl (mmD) rfl) ?_
  refine WL_val rfl rfl rfl (R_move rfl rfl) ?_
  refine WL_val rfl rfl rfl (R_len rfl Tryz.underlying23 rfl) ?_
  refine WL_val rfl rfl rfl (R_leq rfl rfl rfl) ?_
  refine WL_set (s := 17) (v := .bool true) rfl (by exact congrArg Value.bool (decide_eq_true (by omega))) ?_
  refine WL_do rfl rfl rfl (D_call (mlive_ok h) rfl rfl rfl rfl (pqD)) ?_
  rintro _ _ ⟨_, ⟨rfl, rfl⟩, rfl⟩
  refine WL_val rfl rfl rfl (R_move rfl rfl) ?_
  refine WL_val rfl rfl rfl (R_extract rfl rfl rfl) ?_
  refine WL_val rfl rfl rfl (R_extract rfl rfl rfl) ?_
  refine WL_val rfl rfl rfl (R_assign rfl rfl) ?_
  refine WL_val rfl rfl rfl (R_assign rfl rfl) ?_
  refine WL_nil ?_
  refine WQ_code ?_
  refine WC_seq ?_
  refine WC_block ?_
  refine WC_seq ?_
  refine WC_region ?_
  refine WL_val rfl rfl rfl (R_move rfl rfl) ?_
  refine WL_val rfl rfl rfl (R_neq rfl rfl rfl) ?_
  refine WL_val rfl rfl rfl (R_assign rfl rfl) ?_
  refine WL_nil ?_
  refine WQ_code ?_
  refine WC_dF rfl (by decide) ?_
  refine WC_seq ?_
  refine WC_region ?_
  refine WL_val rfl rfl rfl (R_move rfl rfl) ?_
  refine WL_val rfl rfl rfl (R_nilCheck rfl rfl) ?_
  refine WL_val rfl rfl rfl (R_fieldAddr rfl fa96_0 rfl) ?_
  refine WL_val rfl rfl rfl (R_fieldAddr rfl fa94_2 rfl) ?_
  refine WL_val rfl rfl rfl (R_load rfl sc4 rfl (mmD) rfl) ?_
  refine WL_val rfl rfl rfl (R_assign rfl rfl) ?_
  refine WL_nil ?_
  refine WQ_code ?_
  refine WC_F rfl ?_
  refine WC_seq ?_
  refine WC_region ?_
  refine WL_val rfl rfl rfl (R_load rfl sc26 rfl (mmD) rfl) ?_
  refine WL_do rfl rfl rfl (D_call (mfull_ok _ _ _ _ _ m.mb m.p h.oO hout) rfl rfl rfl rfl (pqD)) ?_
  rintro _ _ ⟨_, ⟨rfl, rfl⟩, rfl⟩
  refine WL_val rfl rfl rfl (R_neq rfl rfl rfl) ?_
  refine WL_val rfl rfl rfl (R_assign rfl rfl) ?_
  refine WL_nil ?_
  refine WQ_code ?_
  refine WC_dF rfl (by decide) ?_
  refine WC_seq ?_
  refine WC_region ?_
  refine WL_val rfl rfl rfl (R_move rfl rfl) ?_
  refine WL_val rfl rfl rfl (R_len rfl Tryz.underlying23 rfl) ?_
  refine WL_val rfl rfl rfl (R_gtr rfl rfl rfl) ?_
  refine WL_set (s := 38) (v := .bool true) rfl (by exact congrArg Value.bool (decide_eq_true (by omega))) ?_
  refine WL_val rfl rfl rfl (R_move rfl rfl) ?_
  refine WL_val rfl rfl rfl (R_move rfl rfl) ?_
  refine WL_val rfl rfl rfl (R_nilCheck rfl rfl) ?_
  refine WL_val rfl rfl rfl (R_fieldAddr rfl fa96_0 rfl) ?_
  refine WL_val rfl rfl rfl (R_fieldAddr rfl fa94_0 rfl) ?_
  refine WL_val rfl rfl rfl (R_load rfl sc3 rfl (mmD) rfl) ?_
  refine WL_val rfl rfl rfl (R_eql rfl rfl rfl) ?_
  refine WL_set (s := 45) (v := .bool false) rfl (by exact congrArg Value.bool (decide_eq_false (by omega))) ?_
  refine WL_val rfl rfl rfl (R_pickT rfl rfl rfl) ?_
  refine WL_val rfl rfl rfl (R_assign rfl rfl) ?_
  refine WL_nil ?_
  refine WQ_code ?_
  refine WC_F rfl ?_
  refine WC_skip ?_
  refine WQ_code ?_
  refine WC_seq ?_
  refine WC_region ?_
  refine WL_val rfl rfl rfl (R_move rfl rfl) ?_
  refine WL_val rfl rfl rfl (R_len rfl Tryz.underlying23 rfl) ?_
  refine WL_val rfl rfl rfl (R_move rfl rfl) ?_
  refine WL_val rfl rfl rfl (R_nilCheck rfl rfl) ?_
  refine WL_val rfl rfl rfl (R_fieldAddr rfl fa96_0 rfl) ?_
  refine WL_val rfl rfl rfl (R_fieldAddr rfl fa94_0 rfl) ?_
  refine WL_val rfl rfl rfl (R_load rfl sc3 rfl (mmD) rfl) ?_
  refine WL_val rfl rfl rfl (R_minR (r := (q : Int)) rfl rfl rfl hq) ?_
  refine WL_val rfl rfl rfl (R_assign rfl rfl) ?_
  refine WL_nil ?_
  refine WQ_code ?_
  refine WC_seq ?_
  refine WC_seq ?_
  refine WC_region ?_
  refine WL_val rfl rfl rfl (R_move rfl rfl) ?_
  refine WL_val rfl rfl rfl (R_move rfl rfl) ?_
  refine WL_val rfl rfl rfl (R_sliceTo (m := q) rfl Tryz.underlying23 Tryz.sizeOf5 rfl rfl (by omega)) ?_
  refine WL_do rfl rfl rfl (D_call (chunk_ok pb pk q pc) rfl rfl rfl rfl (pqD)) ?_
  rintro _ _ ⟨_, ⟨bs, bn, rfl, rfl⟩, rfl⟩
  refine WL_nil ?_
  refine WQ_code ?_
  refine WC_block ?_
  refine WC_range (G := WrW) (GX := Unit) (chit_ok pb pk q pc bs bn (by omega) (by omega)) rfl rfl (fun _ => rfl) rfl (fun pre y => y.out = x.out ++ encM (wrF (P.take q) pre) ∧ y.out.length ≤ 65536 + 300 * pre.length ∧ OwnS y.ob y.ok y.out.length y.oc 1 y.op (bvs y.out) y.ot) (fun y => [⟨some b1, cl [ptrW m.p] 26⟩, ⟨some b2, cl [.int .i64 1] 3⟩, ⟨some m.p, cl [.int .i64 (x.win : Int), .map (some m.mb), .int .i64 (x.own : Int), .int .i64 (x.oth : Int), m.wv, sVal y.ob y.ok y.out.length y.oc, ptrW m.rp, .int .i64 0] 70⟩, ⟨y.ob, cl (y.op ++ (bvs y.out ++ y.ot)) 5⟩, ent]) (fun _ _ _ => False) (fun _ => []) (⟨x.out, m.ob, m.ok, m.oc, m.op, m.ot⟩) (⟨by simp [wrF, encM, encA], by simp; omega, h.oO⟩) (pqD) (pqD) ?_ ?_ ?_
  · intro l pre x9 suf gg hx hI w2
    obtain ⟨hgo, hgl, hown⟩ := hI
    have hx9 := congrArg List.length hx
    rw [List.length_range, List.length_append, List.length_cons] at hx9
    have hK9 : chK q ≤ 257 := by unfold chK; omega
    have hrd : RdB (some ⟨pb, pk + 256 * x9, none⟩) ent (wrC (P.take q) x9) := rdB_sub (oa := none) (hP.take q) (256 * x9) 256
    have hcl : (wrC (P.take q) x9).length = chl q x9 := by rw [wrC_len, hTl]
    have hcm : chl q x9 ≤ 256 := Nat.min_le_left ..
    refine WC_region ?_
    refine WL_val rfl rfl rfl (R_assign rfl rfl) ?_
    refine WL_nil ?_
    refine WQ_begin (fun w3 => ?_)
    refine WC_block ?_
    refine WC_drawR [⟨some m.p, _⟩, ⟨gg.ob, _⟩] [(0, true), (1, true), (3, true), (2, false), (4, false), (5, false)] followsMixed rfl rfl (by kernel_rfl) (pqD) ?_
    refine WM_val rfl rfl rfl rfl (R_load rfl sc26 rfl (mmD) rfl) ?_
    refine WM_val rfl rfl rfl rfl (R_load rfl sc3 rfl (mmD) rfl) ?_
    refine WM_val rfl rfl rfl rfl (R_move rfl rfl) ?_
    refine WM_set (s := 63) (v := .slice (some ⟨pb, pk + 256 * x9, none⟩) (wrC (P.take q) x9).length (chl q x9)) rfl (by rw [hcl]) ?_
    refine WM_do rfl rfl rfl rfl (D_call (mbytes_ok 1 4 (by omega) (by omega)) rfl rfl rfl rfl (pqD)) ?_
    rintro _ _ ⟨_, ⟨b4, rfl, rfl⟩, rfl⟩
    refine ⟨⟨_, pqD⟩, ?_⟩
    refine WM_do rfl rfl rfl rfl (D_buildSlice rfl si22 rfl rfl rfl) ?_
    rintro _ _ ⟨b3, rfl, rfl⟩
    refine ⟨⟨_, pqD⟩, ?_⟩
    refine WM_do rfl rfl rfl rfl (D_call (msend_ok _ _ _ _ _ m.mb m.p (.map (some m.mb)) hown 2 b3 [⟨some ⟨b4, 0, none⟩, 4, bigB 1 4⟩, ⟨some ⟨pb, pk + 256 * x9, none⟩, chl q x9, wrC (P.take q) x9⟩] [⟨some b4, cl (bvs (bigB 1 4)) 5⟩, ent] (by simp) (by simp) (parts2 (RdB.blk b4 _) hrd) (short22 (by simp [bigB_len]) (by dsimp only; omega)) (by simp [joinL, bigB_len]; omega) (by omega)) rfl rfl rfl rfl (pqD)) ?_
    rintro _ _ ⟨_, ⟨ob3, k3, c3, pre3, tl3, rfl, rfl, own3⟩, rfl⟩
    refine ⟨⟨_, pqD⟩, ?_⟩
    rw [show joinL [⟨some ⟨b4, 0, none⟩, 4, bigB 1 4⟩, ⟨some ⟨pb, pk + 256 * x9, none⟩, chl q x9, wrC (P.take q) x9⟩] = bigB 1 4 ++ wrC (P.take q) x9 from by simp [joinL]] at own3 ⊢
    refine WM_nil ?_
    refine WQ_rnd (⟨gg.out ++ encF 2 (bigB 1 4 ++ wrC (P.take q) x9), ob3, k3, c3, pre3, tl3⟩) ?_ (pqD)
    exact (⟨by dsimp only; rw [hgo, wrF_snoc, List.append_assoc], by dsimp only; rw [List.length_append, encF_len, List.length_append, bigB_len, hcl, List.length_append, List.length_singleton]; omega, own3⟩)
  · intro dl gg hI
    obtain ⟨hgo, hgl, hown⟩ := hI
    rw [show wrF (P.take q) (List.range (chK q)) = chunks (P.take q) from by unfold chunks; rw [hTl]] at hgo
    rw [hgo] at hown ⊢
    refine WQ_code ?_
    refine WC_seq ?_
    refine WC_region ?_
    refine WL_val rfl rfl rfl (R_move rfl rfl) ?_
    refine WL_val rfl rfl rfl (R_nilCheck rfl rfl) ?_
    refine WL_val rfl rfl rfl (R_fieldAddr rfl fa96_0 rfl) ?_
    refine WL_val rfl rfl rfl (R_fieldAddr rfl fa94_0 rfl) ?_
    refine WL_val rfl rfl rfl (R_load rfl sc3 rfl (mmD) rfl) ?_
    refine WL_val rfl rfl rfl (R_move rfl rfl) ?_
    refine WL_val rfl rfl rfl (R_subR (r := ((x.snd - q : Nat) : Int)) rfl rfl rfl (by rw [wrap64_in (by omega) (by omega)]; omega)) ?_
    refine WL_val rfl rfl rfl (R_nilCheck rfl rfl) ?_
    refine WL_val rfl rfl rfl (R_fieldAddr rfl fa96_0 rfl) ?_
    refine WL_val rfl rfl rfl (R_fieldAddr rfl fa94_0 rfl) ?_
    refine WL_do0 rfl rfl (D_store (vs := [_]) rfl Tryz.sizeOf3 rfl rfl rfl rfl rfl (plD) (by exact Nat.le_of_ble_eq_true rfl)) ?_
    rintro _ _ rfl
    refine WL_nil ?_
    refine WQ_code ?_
    refine WC_seq ?_
    refine WC_region ?_
    refine WL_val rfl rfl rfl (R_move rfl rfl) ?_
    refine WL_val rfl rfl rfl (R_assign rfl rfl) ?_
    refine WL_val rfl rfl rfl (R_assign rfl rfl) ?_
    refine WL_nil ?_
    refine WQ_code ?_
    refine WC_ret ?_
    refine WQ_retM rfl (plD) rfl (.cons (.tmp rfl) (.cons (.tmp rfl) .nil)) rfl (by
        exact ⟨gg.ob, gg.ok, gg.oc, gg.op, gg.ot, rfl, ⟨h.mp, hown, h.uO, h.rO, h.oo, h.w, by dsimp only; omega⟩, rfl⟩) (pqD)
  · intro dl c pre gx hIx
    exact hIx.elim
end Go.Proofs.YtkcfgglmlogjbaaGreat
end
section
set_option linter.unusedVariables false
set_option maxRecDepth 20000
set_option maxHeartbeats 4000000
namespace Go.Proofs.YtkcfgglmlogjbaaGreat
theorem madd_ok (p mb win : Nat) (a2 a3 a4 a5 a6 a7 : Value) : Spec Tryz.prog 24 [ptrW p, .int .i64 1] [⟨some p, cl [.int .i64 (win : Int), .map (some mb), a2, a3, a4, a5, a6, a7] 70⟩, ⟨some mb, .map #[] 0⟩] (fun r H' => ∃ es' sp, Mk ekW ptrW es' 1 [((1 : Int), sp)] ∧ r = .tuple #[] ∧ H' = [⟨some p, cl [.int .i64 (win : Int), .map (some mb), a2, a3, a4, a5, a6, a7] 70⟩, ⟨some mb, .map es' 1⟩, ⟨some sp, cl [.int .i64 (win : Int), .int .i64 0, .bool false, .bool false, .bool false, .int .i64 0, .int .i64 (win : Int), .slice none 0 0, .int .i64 0] 96⟩]) := by
  refine Spec.of (E := [(0, ptrW p), (1, .int .i64 1)]) Tryz.func24 rfl (by kernel_rfl) Tryz.ntmps24 rfl rfl (fun w => ?_)
  refine WC_drawR [⟨some mb, _⟩] [(0, true), (1, true), (2, true), (3, true), (4, true), (5, true), (6, true), (7, true), (8, true), (9, true), (10, true), (11, true), (12, true), (13, true), (14, true), (15, false), (16, false)] followsMixed rfl rfl (by kernel_rfl) (pqD) ?_
  refine WM_val rfl rfl rfl rfl (R_move rfl rfl) ?_
  refine WM_val rfl rfl rfl rfl (R_nilCheck rfl rfl) ?_
  refine WM_val rfl rfl rfl rfl (R_fieldAddr rfl fa70_1 rfl) ?_
  refine WM_val rfl rfl rfl rfl (R_load rfl sc67 rfl (mmD) rfl) ?_
  refine WM_val rfl rfl rfl rfl (R_move rfl rfl) ?_
  refine WM_val rfl rfl rfl rfl (R_move rfl rfl) ?_
  refine WM_val rfl rfl rfl rfl (R_nilCheck rfl rfl) ?_
  refine WM_val rfl rfl rfl rfl (R_fieldAddr rfl fa70_0 rfl) ?_
  refine WM_val rfl rfl rfl rfl (R_load rfl sc3 rfl (mmD) rfl) ?_
  refine WM_val rfl rfl rfl rfl (R_build rfl zv94 pl94 rfl rfl) ?_
  refine WM_val rfl rfl rfl rfl (R_move rfl rfl) ?_
  refine WM_val rfl rfl rfl rfl (R_nilCheck rfl rfl) ?_
  refine WM_val rfl rfl rfl rfl (R_fieldAddr rfl fa70_0 rfl) ?_
  refine WM_val rfl rfl rfl rfl (R_load rfl sc3 rfl (mmD) rfl) ?_
  refine WM_val rfl rfl rfl rfl (R_build rfl zv96 pl96 rfl rfl) ?_
  refine WM_do rfl rfl rfl rfl (D_box (cs := [_, _, _, _, _, _, _, _, _]) rfl rfl rfl) ?_
  rintro _ _ ⟨b1, rfl, rfl⟩
  refine ⟨⟨_, pqD⟩, ?_⟩
  refine WM_do0 rfl rfl rfl (D_mapAddK (k := (1 : Int)) (v := b1) rfl Tryz.underlying67 int_key rfl rfl rfl plD (Mk.empty (ek := ekW) (ev := ptrW)) (by simp)) ?_
  rintro _ _ ⟨es9, hM9, rfl⟩
  refine ⟨⟨_, pqD⟩, ?_⟩
  refine WM_nil ?_
  refine WQ_ret rfl rfl .nil rfl (by
      exact ⟨es9, _, hM9, rfl, rfl⟩) (pqD)
theorem mnew_c (win : Nat) (hw : 1 ≤ win ∧ win ≤ 4096) : Spec Tryz.prog 6 [.bool true, .int .i64 (win : Int)] [] (fun r H' => ∃ p mb rp, r = .tuple #[ptrW p, .int .i64 0] ∧ H' = [⟨some p, cl [.int .i64 (win : Int), .map (some mb), .int .i64 1, .int .i64 2, .slice none 0 0, .slice none 0 0, ptrW rp, .int .i64 0] 70⟩, ⟨some mb, .map #[] 0⟩, ⟨some rp, cl [.slice none 0 0, .int .i64 0] 32⟩]) := by
  refine Spec.of (E := [(0, .bool true), (1, .int .i64 (win : Int))]) Tryz.func6 rfl (by kernel_rfl) Tryz.ntmps6 rfl rfl (fun w => ?_)
  refine WC_seq ?_
  refine WC_region ?_
  refine WL_val rfl rfl rfl (R_assign rfl rfl) ?_
  refine WL_val rfl rfl rfl (R_assign rfl rfl) ?_
  refine WL_nil ?_
  refine WQ_code ?_
  refine WC_seq ?_
  refine WC_seq ?_
  refine WC_region ?_
  refine WL_val rfl rfl rfl (R_move rfl rfl) ?_
  refine WL_val rfl rfl rfl (R_lss rfl rfl rfl) ?_
  refine WL_set (s := 8) (v := .bool false) rfl (by exact congrArg Value.bool (decide_eq_false (by omega))) ?_
  refine WL_val rfl rfl rfl (R_move rfl rfl) ?_
  refine WL_val rfl rfl rfl (R_move rfl rfl) ?_
  refine WL_val rfl rfl rfl (R_gtr rfl rfl rfl) ?_
  refine WL_set (s := 11) (v := .bool false) rfl (by exact congrArg Value.bool (decide_eq_false (by omega))) ?_
  refine WL_val rfl rfl rfl (R_pickF rfl rfl rfl) ?_
  refine WL_nil ?_
  refine WQ_code ?_
  refine WC_F rfl ?_
  refine WC_skip ?_
  refine WQ_code ?_
  refine WC_seq ?_
  refine WC_region ?_
  refine WL_val rfl rfl rfl (R_move rfl rfl) ?_
  refine WL_do rfl rfl rfl (D_makeMap rfl) ?_
  rintro _ _ ⟨mb, rfl, rfl⟩
  refine WL_val rfl rfl rfl (R_build rfl zv32 pl32 rfl rfl) ?_
  refine WL_do rfl rfl rfl (D_box (cs := [_, _]) rfl rfl rfl) ?_
  rintro _ _ ⟨b1, rfl, rfl⟩
  refine WL_val rfl rfl rfl (R_build rfl zv70 pl70 rfl rfl) ?_
  refine WL_do rfl rfl rfl (D_box (cs := [_, _, _, _, _, _, _, _]) rfl rfl rfl) ?_
  rintro _ _ ⟨b2, rfl, rfl⟩
  refine WL_val rfl rfl rfl (R_assign rfl rfl) ?_
  refine WL_nil ?_
  refine WQ_code ?_
  refine WC_seq ?_
  refine WC_seq ?_
  refine WC_region ?_
  refine WL_val rfl rfl rfl (R_move rfl rfl) ?_
  refine WL_nil ?_
  refine WQ_code ?_
  refine WC_T rfl ?_
  refine WC_region ?_
  refine WL_val rfl rfl rfl (R_move rfl rfl) ?_
  refine WL_val rfl rfl rfl (R_move rfl rfl) ?_
  refine WL_val rfl rfl rfl (R_nilCheck rfl rfl) ?_
  refine WL_val rfl rfl rfl (R_fieldAddr rfl fa70_2 rfl) ?_
  refine WL_do0 rfl rfl (D_store (vs := [_]) rfl Tryz.sizeOf3 rfl rfl rfl rfl rfl (plD) (by exact Nat.le_of_ble_eq_true rfl)) ?_
  rintro _ _ rfl
  refine WL_val rfl rfl rfl (R_nilCheck rfl rfl) ?_
  refine WL_val rfl rfl rfl (R_fieldAddr rfl fa70_3 rfl) ?_
  refine WL_do0 rfl rfl (D_store (vs := [_]) rfl Tryz.sizeOf3 rfl rfl rfl rfl rfl (plD) (by exact Nat.le_of_ble_eq_true rfl)) ?_
  rintro _ _ rfl
  refine WL_nil ?_
  refine WQ_code ?_
  refine WC_seq ?_
  refine WC_region ?_
  refine WL_val rfl rfl rfl (R_move rfl rfl) ?_
  refine WL_val rfl rfl rfl (R_assign rfl rfl) ?_
  refine WL_val rfl rfl rfl (R_assign rfl rfl) ?_
  refine WL_nil ?_
  refine WQ_code ?_
  refine WC_ret ?_
  refine WQ_ret rfl rfl (.cons (.tmp rfl) (.cons (.tmp rfl) .nil)) rfl (by
      exact ⟨b2, mb, b1, rfl, rfl⟩) (pqD)
theorem mnew_s (win : Nat) (hw : 1 ≤ win ∧ win ≤ 4096) : Spec Tryz.prog 6 [.bool false, .int .i64 (win : Int)] [] (fun r H' => ∃ p mb rp, r = .tuple #[ptrW p, .int .i64 0] ∧ H' = [⟨some p, cl [.int .i64 (win : Int), .map (some mb), .int .i64 2, .int .i64 1, .slice none 0 0, .slice none 0 0, ptrW rp, .int .i64 0] 70⟩, ⟨some mb, .map #[] 0⟩, ⟨some rp, cl [.slice none 0 0, .int .i64 0] 32⟩]) := by
  refine Spec.of (E := [(0, .bool false), (1, .int .i64 (win : Int))]) Tryz.func6 rfl (by kernel_rfl) Tryz.ntmps6 rfl rfl (fun w => ?_)
  refine WC_seq ?_
  refine WC_region ?_
  refine WL_val rfl rfl rfl (R_assign rfl rfl) ?_
  refine WL_val rfl rfl rfl (R_assign rfl rfl) ?_
  refine WL_nil ?_
  refine WQ_code ?_
  refine WC_seq ?_
  refine WC_seq ?_
  refine WC_region ?_
  refine WL_val rfl rfl rfl (R_move rfl rfl) ?_
  refine WL_val rfl rfl rfl (R_lss rfl rfl rfl) ?_
  refine WL_set (s := 8) (v := .bool false) rfl (by exact congrArg Value.bool (decide_eq_false (by omega))) ?_
  refine WL_val rfl rfl rfl (R_move rfl rfl) ?_
  refine WL_val rfl rfl rfl (R_move rfl rfl) ?_
  refine WL_val rfl rfl rfl (R_gtr rfl rfl rfl) ?_
  refine WL_set (s := 11) (v := .bool false) rfl (by exact congrArg Value.bool (decide_eq_false (by omega))) ?_
  refine WL_val rfl rfl rfl (R_pickF rfl rfl rfl) ?_
  refine WL_nil ?_
  refine WQ_code ?_
  refine WC_F rfl ?_
  refine WC_skip ?_
  refine WQ_code ?_
  refine WC_seq ?_
  refine WC_region ?_
  refine WL_val rfl rfl rfl (R_move rfl rfl) ?_
  refine WL_do rfl rfl rfl (D_makeMap rfl) ?_
  rintro _ _ ⟨mb, rfl, rfl⟩
  refine WL_val rfl rfl rfl (R_build rfl zv32 pl32 rfl rfl) ?_
  refine WL_do rfl rfl rfl (D_box (cs := [_, _]) rfl rfl rfl) ?_
  rintro _ _ ⟨b1, rfl, rfl⟩
  refine WL_val rfl rfl rfl (R_build rfl zv70 pl70 rfl rfl) ?_
  refine WL_do rfl rfl rfl (D_box (cs := [_, _, _, _, _, _, _, _]) rfl rfl rfl) ?_
  rintro _ _ ⟨b2, rfl, rfl⟩
  refine WL_val rfl rfl rfl (R_assign rfl rfl) ?_
  refine WL_nil ?_
  refine WQ_code ?_
  refine WC_seq ?_
  refine WC_seq ?_
  refine WC_region ?_
  refine WL_val rfl rfl rfl (R_move rfl rfl) ?_
  refine WL_nil ?_
  refine WQ_code ?_
  refine WC_F rfl ?_
  refine WC_skip ?_
  refine WQ_code ?_
  refine WC_seq ?_
  refine WC_region ?_
  refine WL_val rfl rfl rfl (R_move rfl rfl) ?_
  refine WL_val rfl rfl rfl (R_assign rfl rfl) ?_
  refine WL_val rfl rfl rfl (R_assign rfl rfl) ?_
  refine WL_nil ?_
  refine WQ_code ?_
  refine WC_ret ?_
  refine WQ_ret rfl rfl (.cons (.tmp rfl) (.cons (.tmp rfl) .nil)) rfl (by
      exact ⟨b2, mb, b1, rfl, rfl⟩) (pqD)
theorem mopend_ok (p mb rp win : Nat) : Spec Tryz.prog 82 [ptrW p, .int .i64 1, .pointer none, .slice none 0 0] [⟨some p, cl [.int .i64 (win : Int), .map (some mb), .int .i64 2, .int .i64 1, .slice none 0 0, .slice none 0 0, ptrW rp, .int .i64 0] 70⟩, ⟨some mb, .map #[] 0⟩] (fun r H' => ∃ es' sp wo wc wt, Mk ekW ptrW es' 1 [((1 : Int), sp)] ∧ Own wo 1 wc 1 [.int .i64 1] wt ∧ r = .tuple #[] ∧ H' = [⟨some p, cl [.int .i64 (win : Int), .map (some mb), .int .i64 2, .int .i64 3, slV wo 1 wc, .slice none 0 0, ptrW rp, .int .i64 0] 70⟩, ⟨some mb, .map es' 1⟩, ⟨some sp, cl [.int .i64 (win : Int), .int .i64 0, .bool false, .bool false, .bool false, .int .i64 0, .int .i64 (win : Int), .slice none 0 0, .int .i64 0] 96⟩, ⟨wo, cl ([.int .i64 1] ++ wt) 3⟩]) := by
  refine Spec.of (E := [(0, ptrW p), (1, .int .i64 1), (2, .pointer none), (3, .slice none 0 0)]) Tryz.func82 rfl (by kernel_rfl) Tryz.ntmps82 rfl rfl (fun w => ?_)
  refine WC_seq ?_
  refine WC_region ?_
  refine WL_val rfl rfl rfl (R_move rfl rfl) ?_
  refine WL_val rfl rfl rfl (R_move rfl rfl) ?_
  refine WL_val rfl rfl rfl (R_nilCheck rfl rfl) ?_
  refine WL_val rfl rfl rfl (R_fieldAddr rfl fa70_3 rfl) ?_
  refine WL_val rfl rfl rfl (R_load rfl sc3 rfl (mmD) rfl) ?_
  refine WL_val rfl rfl rfl (R_eql rfl rfl rfl) ?_
  refine WL_set (s := 13) (v := .bool true) rfl (by rfl) ?_
  refine WL_do rfl rfl rfl (D_call (mmust_ok _) rfl rfl rfl rfl (pqD)) ?_
  rintro _ _ ⟨_, ⟨rfl, rfl⟩, rfl⟩
  refine WL_nil ?_
  refine WQ_code ?_
  refine WC_seq ?_
  refine WC_region ?_
  refine WL_val rfl rfl rfl (R_move rfl rfl) ?_
  refine WL_val rfl rfl rfl (R_nilCheck rfl rfl) ?_
  refine WL_val rfl rfl rfl (R_fieldAddr rfl fa70_3 rfl) ?_
  refine WL_val rfl rfl rfl (R_load rfl sc3 rfl (mmD) rfl) ?_
  refine WL_val rfl rfl rfl (R_addR (r := 3) rfl rfl rfl (rfl)) ?_
  refine WL_val rfl rfl rfl (R_nilCheck rfl rfl) ?_
  refine WL_val rfl rfl rfl (R_fieldAddr rfl fa70_3 rfl) ?_
  refine WL_do0 rfl rfl (D_store (vs := [_]) rfl Tryz.sizeOf3 rfl rfl rfl rfl rfl (plD) (by exact Nat.le_of_ble_eq_true rfl)) ?_
  rintro _ _ rfl
  refine WL_nil ?_
  refine WQ_code ?_
  refine WC_seq ?_
  refine WC_seq ?_
  refine WC_region ?_
  refine WL_val rfl rfl rfl (R_move rfl rfl) ?_
  refine WL_val rfl rfl rfl (R_nilCheck rfl rfl) ?_
  refine WL_val rfl rfl rfl (R_fieldAddr rfl fa70_1 rfl) ?_
  refine WL_val rfl rfl rfl (R_load rfl sc67 rfl (mmD) rfl) ?_
  refine WL_val rfl rfl rfl (R_lenMapK rfl Tryz.underlying67 rfl mmD (Mk.empty (ek := ekW) (ev := ptrW))) ?_
  refine WL_val rfl rfl rfl (R_geq rfl rfl rfl) ?_
  refine WL_nil ?_
  refine WQ_code ?_
  refine WC_dF rfl (by decide) ?_
  refine WC_skip ?_
  refine WQ_code ?_
  refine WC_seq ?_
  refine WC_region ?_
  refine WL_val rfl rfl rfl (R_move rfl rfl) ?_
  refine WL_val rfl rfl rfl (R_move rfl rfl) ?_
  refine WL_do rfl rfl rfl (D_call (madd_ok p mb win _ _ _ _ _ _) rfl rfl rfl rfl (pqD)) ?_
  rintro _ _ ⟨_, ⟨es9, sp9, hM9, rfl, rfl⟩, rfl⟩
  refine WL_nil ?_
  refine WQ_code ?_
  refine WC_region ?_
  refine WL_val rfl rfl rfl (R_move rfl rfl) ?_
  refine WL_val rfl rfl rfl (R_move rfl rfl) ?_
  refine WL_val rfl rfl rfl (R_nilCheck rfl rfl) ?_
  refine WL_val rfl rfl rfl (R_fieldAddr rfl fa70_4 rfl) ?_
  refine WL_val rfl rfl rfl (R_load rfl sc42 rfl (mmD) rfl) ?_
  refine WL_val rfl rfl rfl (R_move rfl rfl) ?_
  refine WL_do rfl rfl rfl (D_buildSlice rfl si42 rfl rfl rfl) ?_
  rintro _ _ ⟨b1, rfl, rfl⟩
  refine WL_none 3 ?_
  refine WL_do rfl rfl rfl (D_append rfl si42 rfl (Own.empty 1) plD rfl mmD (atZ : At _ 0 [_]) rfl rfl (by omega) (by omega)) ?_
  rintro _ _ ⟨obO, cO9, tlO, rfl, ownO, rfl⟩
  refine WL_val rfl rfl rfl (R_nilCheck rfl rfl) ?_
  refine WL_val rfl rfl rfl (R_fieldAddr rfl fa70_4 rfl) ?_
  refine WL_do0 rfl rfl (D_store (vs := [_]) rfl Tryz.sizeOf42 rfl rfl rfl rfl rfl (plD) (by exact Nat.le_of_ble_eq_true rfl)) ?_
  rintro _ _ rfl
  refine WL_nil ?_
  refine WQ_ret rfl rfl .nil rfl (by
      exact ⟨es9, sp9, obO, cO9, tlO, hM9, ownO, rfl, rfl⟩) (pqD)
theorem mhandle_open (p mb rp win : Nat) (kk : UInt8) (hk : kk.toNat = 1) {o : Option Nat} {c2 : Nat} {tl : List Value} (own : Own o (bigB 1 4).length c2 1 (bvs (bigB 1 4)) tl) : Spec Tryz.prog 54 [ptrW p, .agg #[.int .u8 (kk.toNat : Int), slV o (bigB 1 4).length c2]] [⟨some p, cl [.int .i64 (win : Int), .map (some mb), .int .i64 2, .int .i64 1, .slice none 0 0, .slice none 0 0, ptrW rp, .int .i64 0] 70⟩, ⟨some mb, .map #[] 0⟩, ⟨o, cl (bvs (bigB 1 4) ++ tl) 5⟩]
    (fun r H' => ∃ es' sp wo wc wt, Mk ekW ptrW es' 1 [((1 : Int), sp)] ∧ Own wo 1 wc 1 [.int .i64 1] wt ∧ r = .tuple #[] ∧ H' = [⟨some p, cl [.int .i64 (win : Int), .map (some mb), .int .i64 2, .int .i64 3, slV wo 1 wc, .slice none 0 0, ptrW rp, .int .i64 0] 70⟩, ⟨some mb, .map es' 1⟩, ⟨some sp, cl [.int .i64 (win : Int), .int .i64 0, .bool false, .bool false, .bool false, .int .i64 0, .int .i64 (win : Int), .slice none 0 0, .int .i64 0] 96⟩, ⟨wo, cl ([.int .i64 1] ++ wt) 3⟩]) := by
  have hle9 := own.le
  obtain ⟨wb, rfl⟩ := own.some_of (by rw [bigB_len]; decide)
  have hnum : ((numB ((bigB 1 4).take 4) : Nat) : Int) = 1 := rfl
  refine Spec.of (E := [(0, ptrW p), (1, .agg #[.int .u8 (kk.toNat : Int), slV (some wb) (bigB 1 4).length c2])]) Tryz.func54 rfl (by kernel_rfl) Tryz.ntmps54 rfl rfl (fun w => ?_)
  refine WC_seq ?_
  refine WC_region ?_
  refine WL_do rfl rfl rfl (D_box (cs := [_, _]) rfl rfl rfl) ?_
  rintro _ _ ⟨b1, rfl, rfl⟩
  refine WL_nil ?_
  refine WQ_code ?_
  refine WC_seq ?_
  refine WC_region ?_
  refine WL_val rfl rfl rfl (R_fieldAddr rfl fa84_0 rfl) ?_
  refine WL_val rfl rfl rfl (R_load rfl sc5 rfl (mmD) rfl) ?_
  refine WL_val rfl rfl rfl (R_geq rfl rfl rfl) ?_
  refine WL_set (s := 9) (v := .bool true) rfl (by exact congrArg Value.bool (decide_eq_true (by omega))) ?_
  refine WL_val rfl rfl rfl (R_move rfl rfl) ?_
  refine WL_val rfl rfl rfl (R_fieldAddr rfl fa84_0 rfl) ?_
  refine WL_val rfl rfl rfl (R_load rfl sc5 rfl (mmD) rfl) ?_
  refine WL_val rfl rfl rfl (R_leq rfl rfl rfl) ?_
  refine WL_set (s := 13) (v := .bool true) rfl (by exact congrArg Value.bool (decide_eq_true (by omega))) ?_
  refine WL_val rfl rfl rfl (R_pickT rfl rfl rfl) ?_
  refine WL_do rfl rfl rfl (D_call (mmust_ok _) rfl rfl rfl rfl (pqD)) ?_
  rintro _ _ ⟨_, ⟨rfl, rfl⟩, rfl⟩
  refine WL_nil ?_
  refine WQ_code ?_
  refine WC_seq ?_
  refine WC_drawB _ [(1, .q), (2, .q), (0, .n [4]), (3, .q), (4, .b []), (5, .n [])] followsMixed rfl rfl (by kernel_rfl) .all ?_
  refine WB_val rfl rfl rfl rfl (R_fieldAddr rfl fa84_0 rfl) ?_
  refine WB_val rfl rfl rfl rfl (R_load rfl sc5 rfl (mmD) rfl) ?_
  refine WB_do rfl rfl rfl rfl (.cons rfl rfl (B_alloc rfl zv124) .nil) (fun _ => D_call (kinds_ok) rfl rfl rfl rfl (pqD)) ?_
  rintro _ _ ⟨_, ⟨rfl, rfl⟩, rfl⟩
  refine ⟨⟨_, pqD⟩, ?_⟩
  refine WB_val rfl rfl rfl rfl (R_indexArrA (sz := 3) (vs := [.int .i64 0, .int .i64 0, .func (.func 82) #[] #[]]) rfl Tryz.underlying125 ag124 rfl rfl ⟨by omega, by omega⟩ rfl (by rw [Int.toNat_natCast, hk]; exact kinds_at1)) ?_
  refine WB_birth rfl rfl rfl rfl .nil (B_alloc rfl zv124) (fun b2 => ?_)
  refine WB_do0 rfl rfl rfl .nil (fun _ => D_store (vs := [_, _, _]) rfl Tryz.sizeOf124 rfl rfl rfl rfl rfl (plD) (by exact Nat.le_of_ble_eq_true rfl)) ?_
  rintro _ _ rfl
  refine ⟨⟨_, pqD⟩, ?_⟩
  refine WB_nil ?_
  refine WQ_code ?_
  refine WC_seq ?_
  refine WC_region ?_
  refine WL_val rfl rfl rfl (R_fieldAddr rfl fa84_1 rfl) ?_
  refine WL_val rfl rfl rfl (R_load rfl sc23 rfl (mmD) rfl) ?_
  refine WL_val rfl rfl rfl (R_len rfl Tryz.underlying23 rfl) ?_
  refine WL_val rfl rfl rfl (R_fieldAddr rfl fa124_0 rfl) ?_
  refine WL_val rfl rfl rfl (R_load rfl sc3 rfl (mmD) rfl) ?_
  refine WL_val rfl rfl rfl (R_addR (r := 4) rfl rfl rfl (rfl)) ?_
  refine WL_val rfl rfl rfl (R_geq rfl rfl rfl) ?_
  refine WL_set (s := 26) (v := .bool true) rfl (by exact congrArg Value.bool (decide_eq_true (by rw [bigB_len]; decide))) ?_
  refine WL_val rfl rfl rfl (R_move rfl rfl) ?_
  refine WL_val rfl rfl rfl (R_fieldAddr rfl fa84_1 rfl) ?_
  refine WL_val rfl rfl rfl (R_load rfl sc23 rfl (mmD) rfl) ?_
  refine WL_val rfl rfl rfl (R_len rfl Tryz.underlying23 rfl) ?_
  refine WL_val rfl rfl rfl (R_fieldAddr rfl fa124_1 rfl) ?_
  refine WL_val rfl rfl rfl (R_load rfl sc3 rfl (mmD) rfl) ?_
  refine WL_val rfl rfl rfl (R_addR (r := 4) rfl rfl rfl (rfl)) ?_
  refine WL_val rfl rfl rfl (R_leq rfl rfl rfl) ?_
  refine WL_set (s := 34) (v := .bool true) rfl (by exact congrArg Value.bool (decide_eq_true (by rw [bigB_len]; decide))) ?_
  refine WL_val rfl rfl rfl (R_pickT rfl rfl rfl) ?_
  refine WL_do rfl rfl rfl (D_call (mmust_ok _) rfl rfl rfl rfl (pqD)) ?_
  rintro _ _ ⟨_, ⟨rfl, rfl⟩, rfl⟩
  refine WL_nil ?_
  refine WQ_code ?_
  refine WC_seq ?_
  refine WC_region ?_
  refine WL_val rfl rfl rfl (R_fieldAddr rfl fa84_1 rfl) ?_
  refine WL_val rfl rfl rfl (R_load rfl sc23 rfl (mmD) rfl) ?_
  refine WL_val rfl rfl rfl (R_sliceTo (m := 4) rfl Tryz.underlying23 Tryz.sizeOf5 rfl rfl (by rw [bigB_len] at hle9; omega)) ?_
  refine WL_set (s := 39) (v := .slice (some ⟨wb, 0, none⟩) ((bigB 1 4).take 4).length c2) rfl rfl ?_
  refine WL_do rfl rfl rfl (D_call (mnum_ok ((RdB.own own).take 4) (by rw [List.length_take]; omega)) rfl rfl rfl rfl (pqD)) ?_
  rintro _ _ ⟨_, ⟨rfl, rfl⟩, rfl⟩
  rw [hnum]
  refine WL_val rfl rfl rfl (R_assign rfl rfl) ?_
  refine WL_nil ?_
  refine WQ_code ?_
  refine WC_seq ?_
  refine WC_seq ?_
  refine WC_region ?_
  refine WL_val rfl rfl rfl (R_fieldAddr rfl fa84_0 rfl) ?_
  refine WL_val rfl rfl rfl (R_load rfl sc5 rfl (mmD) rfl) ?_
  refine WL_val rfl rfl rfl (R_eql rfl rfl rfl) ?_
  refine WL_nil ?_
  refine WQ_code ?_
  refine WC_dT rfl (by omega) ?_
  refine WC_seq ?_
  refine WC_region ?_
  refine WL_val rfl rfl rfl (R_fieldAddr rfl fa124_2 rfl) ?_
  refine WL_val rfl rfl rfl (R_load rfl sc122 rfl (mmD) rfl) ?_
  refine WL_val rfl rfl rfl (R_move rfl rfl) ?_
  refine WL_val rfl rfl rfl (R_move rfl rfl) ?_
  refine WL_do rfl rfl rfl (D_call (mopend_ok p mb rp win) rfl rfl rfl rfl (pqD)) ?_
  rintro _ _ ⟨_, ⟨es', sp, wo, wc, wt, hM, hW, rfl, rfl⟩, rfl⟩
  refine WL_nil ?_
  refine WQ_code ?_
  refine WC_ret ?_
  refine WQ_ret rfl rfl .nil rfl (by
      exact ⟨es', sp, wo, wc, wt, hM, hW, rfl, rfl⟩) (pqD)
end Go.Proofs.YtkcfgglmlogjbaaGreat
end
