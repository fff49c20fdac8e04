/-
  Chapter 45 (rpc), part RowActT: contracts of functions that the laws call, each for the heap it names.
-/
import Derived.Test.YtdelhikejgoffaaGreatY05
import Derived.Test.YtdelhikejgoffaaGreatRows
section
set_option linter.unusedVariables false
set_option maxRecDepth 20000
set_option maxHeartbeats 4000000
namespace Go.Proofs.YtdelhikejgoffaaGreat
theorem wcrcv_ok {M : Heap} {m : CvV} {u : PC} (h : CvR M m u) (hJ : PCJ u) {l : Bs} {oa : Option Addr} {c : Nat} (hr : RdM encY M oa l) (hl : l.length ≤ 1000000) (hbs : u.bs.length ≤ 1000000) (hsum : u.calls.length + u.res.length ≤ 100000) :
    Spec Tryz.prog 32 [cvv m u, .slice oa l.length c] M (RcP M (u.recv l)) := by
  obtain ⟨R, hRd⟩ : ∃ R, R = rcvN PC.step (u.bs.length + l.length + 1) { u with bs := [] } (u.bs ++ l) := ⟨_, rfl⟩
  refine Spec.of (E := [(0, cvv m u), (1, .slice oa l.length c)]) Tryz.func32 rfl (by kernel_rfl) Tryz.ntmps32 rfl rfl (fun w => ?_)
  refine WC_seq ?_
  refine WC_region ?_
  refine WL_do rfl rfl rfl (D_box (cs := [_, _, _, _, _, _, _, _]) rfl rfl rfl) ?_
  rintro _ _ ⟨b1, rfl, rfl⟩
  refine WL_do rfl rfl rfl (D_alloc rfl zv54) ?_
  rintro _ _ ⟨b2, rfl, rfl⟩
  refine WL_val rfl rfl rfl (R_assign rfl rfl) ?_
  refine WL_nil ?_
  refine WQ_code ?_
  refine WC_seq ?_
  refine WC_seq ?_
  refine WC_region ?_
  refine WL_val rfl rfl rfl (R_fieldAddr rfl fa54_7 rfl) ?_
  refine WL_val rfl rfl rfl (R_load rfl sc4 rfl (mmD) rfl) ?_
  refine WL_val rfl rfl rfl (R_move rfl rfl) ?_
  refine WL_split (s := 11) rfl (fun c1 => ?_) (fun c1 => ?_)
  · have hcl : u.closed = true := c1
    refine WL_skip rfl rfl rfl ?_
    refine WL_skip rfl rfl rfl ?_
    refine WL_skip rfl rfl rfl ?_
    refine WL_val rfl rfl rfl (R_pickT rfl rfl rfl) ?_
    refine WL_nil ?_
    refine WQ_code ?_
    refine WC_T rfl ?_
    refine WC_seq ?_
    refine WC_region ?_
    refine WL_val rfl rfl rfl (R_loadA (vs := [_, _, _, _, _, _, _, _]) rfl ag54 rfl (mmD) rfl (atZ)) ?_
    refine WL_do0 rfl rfl (D_store (vs := [_, _, _, _, _, _, _, _]) rfl Tryz.sizeOf54 rfl rfl rfl rfl rfl (plD) (by exact Nat.le_of_ble_eq_true rfl)) ?_
    rintro _ _ rfl
    refine WL_val rfl rfl rfl (R_assign rfl rfl) ?_
    refine WL_nil ?_
    refine WQ_code ?_
    refine WC_ret ?_
    refine WQ_ret rfl rfl (.cons (.cell (vs := [_, _, _, _, _, _, _, _]) rfl ag54 (mmD) rfl (atZ)) (.cons (.tmp rfl) .nil)) rfl (by
        have hP : u.recv l = (u, 8) := by unfold PC.recv; rw [if_pos (.inl hcl)]
        rw [hP]
        exact ⟨[], m, h, rfl, rfl⟩) (pqD)
  · have hcl : u.closed = false := c1
    refine WL_val rfl rfl rfl (R_fieldAddr rfl fa54_6 rfl) ?_
    refine WL_val rfl rfl rfl (R_load rfl sc3 rfl (mmD) rfl) ?_
    refine WL_val rfl rfl rfl (R_neq rfl rfl rfl) ?_
    refine WL_val rfl rfl rfl (R_pickF rfl rfl rfl) ?_
    refine WL_nil ?_
    refine WQ_code ?_
    refine WC_dec rfl (fun c2 => ?_) (fun c2 => ?_)
    · have hP : u.recv l = (u, 8) := by unfold PC.recv; rw [if_pos (.inr c2)]
      refine WC_seq ?_
      refine WC_region ?_
      refine WL_val rfl rfl rfl (R_loadA (vs := [_, _, _, _, _, _, _, _]) rfl ag54 rfl (mmD) rfl (atZ)) ?_
      refine WL_do0 rfl rfl (D_store (vs := [_, _, _, _, _, _, _, _]) rfl Tryz.sizeOf54 rfl rfl rfl rfl rfl (plD) (by exact Nat.le_of_ble_eq_true rfl)) ?_
      rintro _ _ rfl
      refine WL_val rfl rfl rfl (R_assign rfl rfl) ?_
      refine WL_nil ?_
      refine WQ_code ?_
      refine WC_ret ?_
      refine WQ_ret rfl rfl (.cons (.cell (vs := [_, _, _, _, _, _, _, _]) rfl ag54 (mmD) rfl (atZ)) (.cons (.tmp rfl) .nil)) rfl (by
          rw [hP]
          exact ⟨[], m, h, rfl, rfl⟩) (pqD)
    · have hbr : u.br = 0 := Decidable.byContradiction c2
      have hnb : ¬ (u.closed = true ∨ u.br ≠ 0) := fun e => e.elim (fun e => by rw [hcl] at e; cases e) (fun e => e hbr)
      refine WC_skip ?_
      refine WQ_code ?_
      refine WC_seq ?_
      refine WC_seq ?_
      refine WC_region ?_
      refine WL_val rfl rfl rfl (R_fieldAddr rfl fa54_5 rfl) ?_
      refine WL_val rfl rfl rfl (R_load rfl sc26 rfl (mmD) rfl) ?_
      refine WL_val rfl rfl rfl (R_len rfl Tryz.underlying26 rfl) ?_
      refine WL_val rfl rfl rfl (R_move rfl rfl) ?_
      refine WL_val rfl rfl rfl (R_len rfl Tryz.underlying26 rfl) ?_
      refine WL_val rfl rfl rfl (R_add rfl rfl rfl (by omega)) ?_
      refine WL_val rfl rfl rfl (R_gtr rfl rfl rfl) ?_
      refine WL_nil ?_
      refine WQ_code ?_
      refine WC_dec rfl (fun c3 => ?_) (fun c3 => ?_)
      · have hP : u.recv l = (u, 7) := by unfold PC.recv; rw [if_neg hnb, if_pos (by omega)]
        refine WC_seq ?_
        refine WC_region ?_
        refine WL_val rfl rfl rfl (R_loadA (vs := [_, _, _, _, _, _, _, _]) rfl ag54 rfl (mmD) rfl (atZ)) ?_
        refine WL_do0 rfl rfl (D_store (vs := [_, _, _, _, _, _, _, _]) rfl Tryz.sizeOf54 rfl rfl rfl rfl rfl (plD) (by exact Nat.le_of_ble_eq_true rfl)) ?_
        rintro _ _ rfl
        refine WL_val rfl rfl rfl (R_assign rfl rfl) ?_
        refine WL_nil ?_
        refine WQ_code ?_
        refine WC_ret ?_
        refine WQ_ret rfl rfl (.cons (.cell (vs := [_, _, _, _, _, _, _, _]) rfl ag54 (mmD) rfl (atZ)) (.cons (.tmp rfl) .nil)) rfl (by
            rw [hP]
            exact ⟨[], m, h, rfl, rfl⟩) (pqD)
      · have hfit : u.bs.length + l.length ≤ 65536 := by omega
        have hP : u.recv l = PC.fin R := by rw [hRd]; exact recvC_fin hnb hfit
        refine WC_skip ?_
        refine WQ_code ?_
        refine WC_seq ?_
        refine WC_region ?_
        obtain ⟨ent, hm, hrb⟩ := hr.b
        refine WL_val rfl rfl rfl (R_fieldAddr rfl fa54_5 rfl) ?_
        refine WL_val rfl rfl rfl (R_load rfl sc26 rfl (mmD) rfl) ?_
        refine WL_do rfl rfl rfl (D_appendIn rfl si26 rfl rfl (RdM.inn h.bs pqD) (by rw [Nat.mul_one]; exact bvs_len u.bs) (by omega) (by omega)) ?_
        rintro _ _ ⟨o7, c7, tl7, rfl, own7, rfl⟩
        refine WL_val rfl rfl rfl (R_move rfl rfl) ?_
        refine WL_do rfl rfl rfl (D_appendBO rfl si26 rfl own7 plD rfl hrb (pulls_mem (pqD : Pulls M _ _) hm) (by omega) (by omega)) ?_
        rintro _ _ ⟨o8, c8, tl8, rfl, own8, rfl⟩
        have e25 : bvs u.bs ++ bvs l = bvs (u.bs ++ l) := (bvs_app _ _).symm
        have own8 : Own o8 (u.bs ++ l).length c8 1 (bvs (u.bs ++ l)) tl8 := by rw [← e25, List.length_append]; exact own8
        refine WL_set (s := 29) (v := slV o8 (u.bs ++ l).length c8) rfl (by rw [List.length_append]) ?_
        refine WLshp (A := [⟨o8, cl (bvs u.bs ++ bvs l ++ tl8) 5⟩]) (A' := [⟨o8, cl (bvs (u.bs ++ l) ++ tl8) 5⟩]) pqD (by rw [e25]) ?_
        refine WL_val rfl rfl rfl (R_fieldAddr rfl fa54_5 rfl) ?_
        refine WL_do0 rfl rfl (D_store (vs := [_]) rfl Tryz.sizeOf26 rfl rfl rfl rfl rfl (plD) (by exact Nat.le_of_ble_eq_true rfl)) ?_
        rintro _ _ rfl
        refine WL_nil ?_
        refine WQ_code ?_
        refine WC_block ?_
        refine WC_loopF (G := CrW) [5, 6, 7, 8, 31, 32, 33, 34, 35, 36, 37, 38, 39, 40, 41, 42, 43, 44, 45, 46, 47, 48, 49, 50, 51, 52, 53, 54, 55, 56, 57, 58, 59, 60, 61, 62, 63, 64] (fun y => CvR (y.N ++ M) y.m y.u ∧ PCJ y.u ∧ y.u.br = 0 ∧ rcvN PC.step (y.n + 1) { y.u with bs := [] } y.u.bs = R ∧ y.u.bs.length ≤ y.n ∧ y.u.bs.length ≤ 65536 ∧ y.u.calls.length + y.u.res.length ≤ 100000) (fun y => []) (fun y => [⟨some b1, cl (cvc y.m y.u) 54⟩] ++ (y.N ++ M)) (fun y => y.u.bs.length) (⟨{ u with bs := u.bs ++ l }, u.bs.length + l.length, { m with a4 := o8.map fun b => ⟨b, 0, none⟩, c4 := c8 }, [⟨o8, cl (bvs (u.bs ++ l) ++ tl8) 5⟩]⟩) (⟨(h.up _).ins (RdM.own own8 M) own8.le, hJ.re rfl rfl, hbr, hRd.symm, by simp, by simp; omega, hsum⟩) leZ (pqD) ?_
        rintro y ⟨hS, hJy, hb0, hR, hn, hbl, hsm⟩
        refine WC_block ?_
        refine WC_seq ?_
        refine WC_region ?_
        refine WL_val rfl rfl rfl (R_fieldAddr rfl fa54_5 rfl) ?_
        refine WL_val rfl rfl rfl (R_load rfl sc26 rfl (mmD) rfl) ?_
        rcases hN : nxt y.u.bs with _ | e | ⟨kk, body, mm⟩
        · refine WL_do rfl rfl rfl (D_call (wfst_wait hS.bs (by omega) hS.bc hN) rfl rfl rfl rfl (pqD)) ?_
          rintro _ _ ⟨_, ⟨rfl, rfl⟩, rfl⟩
          refine WL_val rfl rfl rfl (R_move rfl rfl) ?_
          refine WL_val rfl rfl rfl (R_extract rfl rfl rfl) ?_
          refine WL_val rfl rfl rfl (R_extract rfl rfl rfl) ?_
          refine WL_val rfl rfl rfl (R_extract rfl rfl rfl) ?_
          refine WL_do rfl rfl rfl (D_alloc rfl zv112) ?_
          rintro _ _ ⟨b3, rfl, rfl⟩
          refine WL_do0 rfl rfl (D_store (vs := [_, _]) rfl Tryz.sizeOf112 rfl rfl rfl rfl rfl (plD) (by exact Nat.le_of_ble_eq_true rfl)) ?_
          rintro _ _ rfl
          refine WL_val rfl rfl rfl (R_assign rfl rfl) ?_
          refine WL_val rfl rfl rfl (R_assign rfl rfl) ?_
          refine WL_nil ?_
          refine WQ_code ?_
          refine WC_seq ?_
          refine WC_seq ?_
          refine WC_region ?_
          refine WL_val rfl rfl rfl (R_move rfl rfl) ?_
          refine WL_val rfl rfl rfl (R_eql rfl rfl rfl) ?_
          refine WL_set (s := 39) (v := .bool true) rfl (by rfl) ?_
          refine WL_val rfl rfl rfl (R_move rfl rfl) ?_
          refine WL_val rfl rfl rfl (R_move rfl rfl) ?_
          refine WL_val rfl rfl rfl (R_eql rfl rfl rfl) ?_
          refine WL_set (s := 42) (v := .bool true) rfl (by rfl) ?_
          refine WL_val rfl rfl rfl (R_pickT rfl rfl rfl) ?_
          refine WL_nil ?_
          refine WQ_code ?_
          refine WC_T rfl ?_
          refine WC_seq ?_
          refine WC_region ?_
          refine WL_val rfl rfl rfl (R_loadA (vs := [_, _, _, _, _, _, _, _]) rfl ag54 rfl (mmD) rfl (atZ)) ?_
          refine WL_do0 rfl rfl (D_store (vs := [_, _, _, _, _, _, _, _]) rfl Tryz.sizeOf54 rfl rfl rfl rfl rfl (plD) (by exact Nat.le_of_ble_eq_true rfl)) ?_
          rintro _ _ rfl
          refine WL_val rfl rfl rfl (R_assign rfl rfl) ?_
          refine WL_nil ?_
          refine WQ_code ?_
          refine WC_ret ?_
          refine WQ_ret rfl rfl (.cons (.cell (vs := [_, _, _, _, _, _, _, _]) rfl ag54 (mmD) rfl (atZ)) (.cons (.tmp rfl) .nil)) rfl (by
              have hR9 : R = ({ y.u with bs := [] }, y.u.bs, 0, 0) := by rw [← hR, rcv_wait hN]
              rw [hP, hR9]
              exact ⟨y.N, y.m, hS.reb rfl rfl rfl rfl, by rw [hb0]; rfl, rfl⟩) (pqD)
        · refine WL_do rfl rfl rfl (D_call (wfst_bad hS.bs (by omega) hS.bc hN) rfl rfl rfl rfl (pqD)) ?_
          rintro _ _ ⟨_, ⟨rfl, rfl⟩, rfl⟩
          refine WL_val rfl rfl rfl (R_move rfl rfl) ?_
          refine WL_val rfl rfl rfl (R_extract rfl rfl rfl) ?_
          refine WL_val rfl rfl rfl (R_extract rfl rfl rfl) ?_
          refine WL_val rfl rfl rfl (R_extract rfl rfl rfl) ?_
          refine WL_do rfl rfl rfl (D_alloc rfl zv112) ?_
          rintro _ _ ⟨b4, rfl, rfl⟩
          refine WL_do0 rfl rfl (D_store (vs := [_, _]) rfl Tryz.sizeOf112 rfl rfl rfl rfl rfl (plD) (by exact Nat.le_of_ble_eq_true rfl)) ?_
          rintro _ _ rfl
          refine WL_val rfl rfl rfl (R_assign rfl rfl) ?_
          refine WL_val rfl rfl rfl (R_assign rfl rfl) ?_
          refine WL_nil ?_
          refine WQ_code ?_
          refine WC_seq ?_
          refine WC_seq ?_
          refine WC_region ?_
          refine WL_val rfl rfl rfl (R_move rfl rfl) ?_
          refine WL_val rfl rfl rfl (R_eql rfl rfl rfl) ?_
          refine WL_set (s := 39) (v := .bool false) rfl (by exact congrArg Value.bool (decide_eq_false (nxt_bad_ne hN))) ?_
          refine WL_val rfl rfl rfl (R_move rfl rfl) ?_
          refine WL_skip rfl rfl rfl ?_
          refine WL_skip rfl rfl rfl ?_
          refine WL_val rfl rfl rfl (R_pickF rfl rfl rfl) ?_
          refine WL_nil ?_
          refine WQ_code ?_
          refine WC_F rfl ?_
          refine WC_skip ?_
          refine WQ_code ?_
          refine WC_seq ?_
          refine WC_region ?_
          refine WL_val rfl rfl rfl (R_fieldAddr rfl fa54_5 rfl) ?_
          refine WL_val rfl rfl rfl (R_load rfl sc26 rfl (mmD) rfl) ?_
          refine WL_val rfl rfl rfl (R_move rfl rfl) ?_
          refine WL_val rfl rfl rfl (R_sliceFromG (m := 0) rfl Tryz.underlying26 Tryz.sizeOf5 rfl rfl (Nat.zero_le _)) ?_
          refine WL_val rfl rfl rfl (R_fieldAddr rfl fa54_5 rfl) ?_
          refine WL_do0 rfl rfl (D_store (vs := [_]) rfl Tryz.sizeOf26 rfl rfl rfl rfl rfl (plD) (by exact Nat.le_of_ble_eq_true rfl)) ?_
          rintro _ _ rfl
          refine WL_nil ?_
          refine WQ_code ?_
          refine WC_seq ?_
          refine WC_seq ?_
          refine WC_region ?_
          refine WL_val rfl rfl rfl (R_move rfl rfl) ?_
          refine WL_val rfl rfl rfl (R_eql rfl rfl rfl) ?_
          refine WL_set (s := 51) (v := .bool false) rfl (by exact congrArg Value.bool (decide_eq_false (nxt_bad_ne hN))) ?_
          refine WL_nil ?_
          refine WQ_code ?_
          refine WC_F rfl ?_
          refine WC_skip ?_
          refine WQ_code ?_
          refine WC_seq ?_
          refine WC_region ?_
          refine WL_val rfl rfl rfl (R_move rfl rfl) ?_
          refine WL_val rfl rfl rfl (R_neq rfl rfl rfl) ?_
          refine WL_set (s := 59) (v := .bool true) rfl (by exact congrArg Value.bool (decide_eq_true (nxt_bad_ne hN))) ?_
          refine WL_nil ?_
          refine WQ_code ?_
          refine WC_T rfl ?_
          refine WC_seq ?_
          refine WC_region ?_
          refine WL_val rfl rfl rfl (R_move rfl rfl) ?_
          refine WL_val rfl rfl rfl (R_fieldAddr rfl fa54_6 rfl) ?_
          refine WL_do0 rfl rfl (D_store (vs := [_]) rfl Tryz.sizeOf3 rfl rfl rfl rfl rfl (plD) (by exact Nat.le_of_ble_eq_true rfl)) ?_
          rintro _ _ rfl
          refine WL_nil ?_
          refine WQ_code ?_
          refine WC_seq ?_
          refine WC_region ?_
          refine WL_val rfl rfl rfl (R_loadA (vs := [_, _, _, _, _, _, _, _]) rfl ag54 rfl (mmD) rfl (atZ)) ?_
          refine WL_do rfl rfl rfl (D_call (wall_ok (u := ({ y.u with bs := y.u.bs, rb := e, br := e } : PC)) (m := { y.m with a4 := dropA y.m.a4 y.m.c4 0 1, c4 := y.m.c4 - 0 }) ((hS.ins (hS.bs.dropG encY1 hS.bc 0) hS.bc).reb rfl rfl rfl rfl) (hJy.re rfl rfl) (by dsimp only; omega)) rfl rfl rfl rfl (pqD)) ?_
          rintro _ _ ⟨_, ⟨N2, m2, hS2, rfl, rfl⟩, rfl⟩
          refine WL_val rfl rfl rfl (R_move rfl rfl) ?_
          refine WL_do0 rfl rfl (D_store (vs := [_, _, _, _, _, _, _, _]) rfl Tryz.sizeOf54 rfl rfl rfl rfl rfl (plD) (by exact Nat.le_of_ble_eq_true rfl)) ?_
          rintro _ _ rfl
          refine WL_val rfl rfl rfl (R_assign rfl rfl) ?_
          refine WL_nil ?_
          refine WQ_code ?_
          refine WC_ret ?_
          refine WQ_ret rfl rfl (.cons (.cell (vs := [_, _, _, _, _, _, _, _]) rfl ag54 (mmD) rfl (atZ)) (.cons (.tmp rfl) .nil)) rfl (by
              have hR9 : R = ({ y.u with bs := [] }, y.u.bs, e, e) := by rw [← hR, rcv_bad hN]
              have hF : PC.fin R = (({ y.u with bs := y.u.bs, rb := e, br := e } : PC).endW allQ 14 [], e) := by rw [hR9]; unfold PC.fin; rw [if_neg (nxt_bad_ne hN)]
              rw [hP, hF]
              exact ⟨N2 ++ y.N, m2, by rw [List.append_assoc]; exact hS2, rfl, by rw [List.append_assoc]⟩) (pqD)
        · obtain ⟨hm1, hm2, hm3⟩ := nxt_got hN
          have hcap := hS.bc
          have hJ1 : PCJ ({ y.u with bs := y.u.bs.drop mm } : PC) := hJy.re rfl rfl
          have hg := rcvC_got (n := y.n) hN
          rw [hR] at hg
          obtain ⟨hq1, hq2, hq3, hq4⟩ := stepC_br ({ y.u with bs := y.u.bs.drop mm } : PC) kk body
          have hbr2 : (({ y.u with bs := y.u.bs.drop mm } : PC).step kk body).1.br = 0 := hq1.trans hb0
          have hbs2 : (({ y.u with bs := y.u.bs.drop mm } : PC).step kk body).1.bs = y.u.bs.drop mm := hq2
          have hsm2 := step_sum ({ y.u with bs := y.u.bs.drop mm } : PC) kk body
          have hsm3 : ({ y.u with bs := y.u.bs.drop mm } : PC).calls.length + ({ y.u with bs := y.u.bs.drop mm } : PC).res.length ≤ 100000 := hsm
          refine WL_do rfl rfl rfl (D_call (wfst_got hS.bs (by omega) hS.bc hN) rfl rfl rfl rfl (pqD)) ?_
          rintro _ _ ⟨_, ⟨o9, c9, tl9, rfl, rfl, own9⟩, rfl⟩
          refine WL_val rfl rfl rfl (R_move rfl rfl) ?_
          refine WL_val rfl rfl rfl (R_extract rfl rfl rfl) ?_
          refine WL_val rfl rfl rfl (R_extract rfl rfl rfl) ?_
          refine WL_val rfl rfl rfl (R_extract rfl rfl rfl) ?_
          refine WL_do rfl rfl rfl (D_alloc rfl zv112) ?_
          rintro _ _ ⟨b5, rfl, rfl⟩
          refine WL_do0 rfl rfl (D_store (vs := [_, _]) rfl Tryz.sizeOf112 rfl rfl rfl rfl rfl (plD) (by exact Nat.le_of_ble_eq_true rfl)) ?_
          rintro _ _ rfl
          refine WL_val rfl rfl rfl (R_assign rfl rfl) ?_
          refine WL_val rfl rfl rfl (R_assign rfl rfl) ?_
          refine WL_nil ?_
          refine WQ_code ?_
          refine WC_seq ?_
          refine WC_seq ?_
          refine WC_region ?_
          refine WL_val rfl rfl rfl (R_move rfl rfl) ?_
          refine WL_val rfl rfl rfl (R_eql rfl rfl rfl) ?_
          refine WL_set (s := 39) (v := .bool true) rfl (by rfl) ?_
          refine WL_val rfl rfl rfl (R_move rfl rfl) ?_
          refine WL_val rfl rfl rfl (R_move rfl rfl) ?_
          refine WL_val rfl rfl rfl (R_eql rfl rfl rfl) ?_
          refine WL_set (s := 42) (v := .bool false) rfl (by exact congrArg Value.bool (decide_eq_false (by omega))) ?_
          refine WL_val rfl rfl rfl (R_pickT rfl rfl rfl) ?_
          refine WL_nil ?_
          refine WQ_code ?_
          refine WC_F rfl ?_
          refine WC_skip ?_
          refine WQ_code ?_
          refine WC_seq ?_
          refine WC_region ?_
          refine WL_val rfl rfl rfl (R_fieldAddr rfl fa54_5 rfl) ?_
          refine WL_val rfl rfl rfl (R_load rfl sc26 rfl (mmD) rfl) ?_
          refine WL_val rfl rfl rfl (R_move rfl rfl) ?_
          refine WL_val rfl rfl rfl (R_sliceFromG (m := mm) rfl Tryz.underlying26 Tryz.sizeOf5 rfl rfl (by omega)) ?_
          rw [show y.u.bs.length - mm = (y.u.bs.drop mm).length from by simp]
          refine WL_val rfl rfl rfl (R_fieldAddr rfl fa54_5 rfl) ?_
          refine WL_do0 rfl rfl (D_store (vs := [_]) rfl Tryz.sizeOf26 rfl rfl rfl rfl rfl (plD) (by exact Nat.le_of_ble_eq_true rfl)) ?_
          rintro _ _ rfl
          refine WL_nil ?_
          refine WQ_code ?_
          refine WC_seq ?_
          refine WC_seq ?_
          refine WC_region ?_
          refine WL_val rfl rfl rfl (R_move rfl rfl) ?_
          refine WL_val rfl rfl rfl (R_eql rfl rfl rfl) ?_
          refine WL_set (s := 51) (v := .bool true) rfl (by rfl) ?_
          refine WL_nil ?_
          refine WQ_code ?_
          refine WC_T rfl ?_
          refine WC_region ?_
          refine WL_val rfl rfl rfl (R_loadA (vs := [_, _, _, _, _, _, _, _]) rfl ag54 rfl (mmD) rfl (atZ)) ?_
          refine WL_val rfl rfl rfl (R_loadA (vs := [_, _]) rfl ag112 rfl (mmD) rfl (atZ)) ?_
          refine WL_do rfl rfl rfl (D_call (wrpl_ok (u := ({ y.u with bs := y.u.bs.drop mm } : PC)) (m := { y.m with a4 := dropA y.m.a4 y.m.c4 mm 1, c4 := y.m.c4 - mm }) (M := [⟨o9, cl (bvs body ++ tl9) 5⟩] ++ (y.N ++ M)) ((hS.ins (hS.bs.dropG encY1 hS.bc mm) (by rw [List.length_drop]; omega)).up [⟨o9, cl (bvs body ++ tl9) 5⟩]) hJ1 kk (RdM.own (e := 5) own9 _) own9.le hm3 (by dsimp only; omega)) rfl rfl rfl rfl (pqD)) ?_
          rintro _ _ ⟨_, ⟨N2, m2, hS2, rfl, rfl⟩, rfl⟩
          refine WL_val rfl rfl rfl (R_move rfl rfl) ?_
          refine WL_val rfl rfl rfl (R_extract rfl rfl rfl) ?_
          refine WL_val rfl rfl rfl (R_extract rfl rfl rfl) ?_
          refine WL_do0 rfl rfl (D_store (vs := [_, _, _, _, _, _, _, _]) rfl Tryz.sizeOf54 rfl rfl rfl rfl rfl (plD) (by exact Nat.le_of_ble_eq_true rfl)) ?_
          rintro _ _ rfl
          refine WL_val rfl rfl rfl (R_assign rfl rfl) ?_
          refine WL_nil ?_
          refine WQ_code ?_
          refine WC_seq ?_
          refine WC_region ?_
          by_cases h5 : (({ y.u with bs := y.u.bs.drop mm } : PC).step kk body).2 = 0
          · refine WL_val rfl rfl rfl (R_move rfl rfl) ?_
            refine WL_val rfl rfl rfl (R_neq rfl rfl rfl) ?_
            refine WL_set (s := 59) (v := .bool false) rfl (by exact congrArg Value.bool (decide_eq_false (fun e => e h5))) ?_
            rw [if_pos h5] at hg
            obtain ⟨n9, hn9⟩ : ∃ n9, y.n = n9 + 1 := ⟨y.n - 1, by omega⟩
            have hR2 : rcvN PC.step (n9 + 1) { (({ y.u with bs := y.u.bs.drop mm } : PC).step kk body).1 with bs := [] } (({ y.u with bs := y.u.bs.drop mm } : PC).step kk body).1.bs = R := by rw [hbs2, hg, hn9]
            refine WL_nil ?_
            refine WQ_code ?_
            refine WC_F rfl ?_
            refine WC_skip ?_
            refine WQ_nextF (gg := y) (⟨(({ y.u with bs := y.u.bs.drop mm } : PC).step kk body).1, n9, m2, N2 ++ ([⟨o9, cl (bvs body ++ tl9) 5⟩] ++ y.N)⟩) (⟨by rw [List.append_assoc, List.append_assoc]; exact hS2, hJ1.step _ _, hbr2, hR2, by dsimp only; rw [hbs2]; simp; omega, by dsimp only; rw [hbs2]; simp; omega, by dsimp only; rw [step_sum]; exact hsm⟩) (by dsimp only; rw [hbs2]; simp; omega) leZ (psZ) rfl (pqD)
          · refine WL_val rfl rfl rfl (R_move rfl rfl) ?_
            refine WL_val rfl rfl rfl (R_neq rfl rfl rfl) ?_
            refine WL_set (s := 59) (v := .bool true) rfl (by exact congrArg Value.bool (decide_eq_true h5)) ?_
            refine WL_nil ?_
            refine WQ_code ?_
            refine WC_T rfl ?_
            refine WC_seq ?_
            refine WC_region ?_
            refine WL_val rfl rfl rfl (R_move rfl rfl) ?_
            refine WL_val rfl rfl rfl (R_fieldAddr rfl fa54_6 rfl) ?_
            refine WL_do0 rfl rfl (D_store (vs := [_]) rfl Tryz.sizeOf3 rfl rfl rfl rfl rfl (plD) (by exact Nat.le_of_ble_eq_true rfl)) ?_
            rintro _ _ rfl
            refine WL_nil ?_
            refine WQ_code ?_
            refine WC_seq ?_
            refine WC_region ?_
            refine WL_val rfl rfl rfl (R_loadA (vs := [_, _, _, _, _, _, _, _]) rfl ag54 rfl (mmD) rfl (atZ)) ?_
            refine WL_do rfl rfl rfl (D_call (wall_ok (u := { (({ y.u with bs := y.u.bs.drop mm } : PC).step kk body).1 with br := (({ y.u with bs := y.u.bs.drop mm } : PC).step kk body).2 }) (m := m2) (hS2.reb rfl rfl rfl rfl) ((hJ1.step _ _).re rfl rfl) (by show (({ y.u with bs := y.u.bs.drop mm } : PC).step kk body).1.res.length ≤ _; omega)) rfl rfl rfl rfl (pqD)) ?_
            rintro _ _ ⟨_, ⟨N3, m3, hS3, rfl, rfl⟩, rfl⟩
            refine WL_val rfl rfl rfl (R_move rfl rfl) ?_
            refine WL_do0 rfl rfl (D_store (vs := [_, _, _, _, _, _, _, _]) rfl Tryz.sizeOf54 rfl rfl rfl rfl rfl (plD) (by exact Nat.le_of_ble_eq_true rfl)) ?_
            rintro _ _ rfl
            refine WL_val rfl rfl rfl (R_assign rfl rfl) ?_
            refine WL_nil ?_
            refine WQ_code ?_
            refine WC_ret ?_
            refine WQ_ret rfl rfl (.cons (.cell (vs := [_, _, _, _, _, _, _, _]) rfl ag54 (mmD) rfl (atZ)) (.cons (.tmp rfl) .nil)) rfl (by
                rw [if_neg h5] at hg
                have hF : PC.fin R = (({ (({ y.u with bs := y.u.bs.drop mm } : PC).step kk body).1 with bs := y.u.bs.drop mm, rb := 0, br := (({ y.u with bs := y.u.bs.drop mm } : PC).step kk body).2 } : PC).endW allQ 14 [], (({ y.u with bs := y.u.bs.drop mm } : PC).step kk body).2) := by rw [hg]; unfold PC.fin; rw [if_neg h5]
                rw [hP, hF]
                exact ⟨N3 ++ (N2 ++ ([⟨o9, cl (bvs body ++ tl9) 5⟩] ++ y.N)), m3, by rw [List.append_assoc, List.append_assoc, List.append_assoc]; exact hS3.reb rfl rfl rfl hbs2.symm, by first | (rw [hbs2]; rfl) | (show Value.tuple _ = Value.tuple _; simp only [PC.endW]; rw [hbs2]), by rw [List.append_assoc, List.append_assoc, List.append_assoc]⟩) (pqD)
end Go.Proofs.YtdelhikejgoffaaGreat
end
section
set_option linter.unusedVariables false
set_option maxRecDepth 20000
set_option maxHeartbeats 8000000
namespace Go.Proofs.YtdelhikejgoffaaGreat
theorem client_ok {g : CG} {p : Nat} {u : PC} (hg : CGd g p u) {i : Nat} (hI : LcI i u) (hi : i ≤ 40) {M : Heap} {m : CvV} (h : CvR M m u) (a : Ac) (hd : RdM encY M a.oa a.data) (hl : a.data.length ≤ 1100) (ht : a.t ≤ 18446744073709551615) :
    Spec Tryz.prog 10 [ptrC p, cvv m u, .agg #[.int .i64 a.what, .int .i64 a.id, .int .i64 a.n, .int .u64 (a.t : Int), .slice a.oa a.data.length a.c]] (cH g ++ M) (fun r H' => ∃ p' g' m' N, CGd g' p' (u.actC a) ∧ CvR (N ++ M) m' (u.actC a) ∧ r = .tuple #[ptrC p', cvv m' (u.actC a), .bool true] ∧ H' = cH g' ++ (N ++ M)) := by
  have hpv := hI.pcb (by omega)
  have hJ := hI.n.J
  have hB1 := hI.n.o
  have hB2 := hI.b
  have hB3 := hI.n.s
  have hB4 := hI.n.now
  have hdl := hI.n.dl
  have hql := h.rlen
  have hrs : ∀ r ∈ u.res, r.body.length ≤ 1000000 := fun r hr => by have := hI.n.resb r hr; omega
  refine Spec.of (E := [(0, ptrC p), (1, cvv m u), (2, .agg #[.int .i64 a.what, .int .i64 a.id, .int .i64 a.n, .int .u64 (a.t : Int), .slice a.oa a.data.length a.c])]) Tryz.func10 rfl (by kernel_rfl) Tryz.ntmps10 rfl rfl (fun w => ?_)
  refine WC_seq ?_
  refine WC_region ?_
  refine WL_do rfl rfl rfl (D_box (cs := [_, _, _, _, _, _, _, _]) rfl rfl rfl) ?_
  rintro _ _ ⟨b1, rfl, rfl⟩
  refine WL_do rfl rfl rfl (D_box (cs := [_, _, _, _, _]) rfl rfl rfl) ?_
  rintro _ _ ⟨b2, rfl, rfl⟩
  refine WL_val rfl rfl rfl (R_assign rfl rfl) ?_
  refine WL_do rfl rfl rfl (D_alloc rfl zv54) ?_
  rintro _ _ ⟨b3, rfl, rfl⟩
  refine WL_val rfl rfl rfl (R_assign rfl rfl) ?_
  refine WL_nil ?_
  refine WQ_code ?_
  refine WC_seq ?_
  refine WC_seq ?_
  refine WC_region ?_
  refine WL_val rfl rfl rfl (R_fieldAddr rfl fa43_0 rfl) ?_
  refine WL_val rfl rfl rfl (R_load rfl sc3 rfl (mmD) rfl) ?_
  refine WL_nil ?_
  refine WQ_code ?_
  refine WC_block ?_
  refine WC_seq ?_
  refine WC_region ?_
  refine WL_val rfl rfl rfl (R_eql rfl rfl rfl) ?_
  refine WL_val rfl rfl rfl (R_assign rfl rfl) ?_
  refine WL_nil ?_
  refine WQ_code ?_
  refine WC_dec rfl (fun c1 => ?_) (fun c1 => ?_)
  · have hA : u.actC a = (u.call a.data a.t).1 := by unfold PC.actC;  rw [if_pos c1]
    refine WC_seq ?_
    refine WC_region ?_
    refine WL_val rfl rfl rfl (R_loadA (vs := [_, _, _, _, _, _, _, _]) rfl ag54 rfl (mmD) rfl (atZ)) ?_
    refine WL_val rfl rfl rfl (R_fieldAddr rfl fa43_4 rfl) ?_
    refine WL_val rfl rfl rfl (R_load rfl sc26 rfl (mmD) rfl) ?_
    refine WL_val rfl rfl rfl (R_fieldAddr rfl fa43_3 rfl) ?_
    refine WL_val rfl rfl rfl (R_load rfl sc41 rfl (mmD) rfl) ?_
    refine WL_do rfl rfl rfl (D_call (wmake_ok h hJ hd (by omega) a.t ht hB4 (by omega)) rfl rfl rfl rfl (pqD)) ?_
    rintro _ _ ⟨_, ⟨N, m2, hS2, rfl, rfl⟩, rfl⟩
    refine WL_val rfl rfl rfl (R_move rfl rfl) ?_
    refine WL_val rfl rfl rfl (R_extract rfl rfl rfl) ?_
    refine WL_val rfl rfl rfl (R_extract rfl rfl rfl) ?_
    refine WL_val rfl rfl rfl (R_extract rfl rfl rfl) ?_
    refine WL_do rfl rfl rfl (D_alloc rfl zv54) ?_
    rintro _ _ ⟨b4, rfl, rfl⟩
    refine WL_do0 rfl rfl (D_store (vs := [_, _, _, _, _, _, _, _]) rfl Tryz.sizeOf54 rfl rfl rfl rfl rfl (plD) (by exact Nat.le_of_ble_eq_true rfl)) ?_
    rintro _ _ rfl
    refine WL_val rfl rfl rfl (R_assign rfl rfl) ?_
    refine WL_val rfl rfl rfl (R_assign rfl rfl) ?_
    refine WL_nil ?_
    refine WQ_code ?_
    refine WC_seq ?_
    refine WC_drawR (⟨some b3, _⟩ :: ([] ++ cH g)) [(0, true), (1, true), (2, true), (3, true), (4, true), (5, true), (6, true), (7, true), (8, true), (9, true), (10, false), (11, true), (12, false), (13, true)] followsMixed rfl rfl (by kernel_rfl) (pqD) ?_
    obtain ⟨ent0, hm0, hrb0⟩ := (hd.up N).b
    refine WM_val rfl rfl rfl rfl (R_move rfl rfl) ?_
    refine WM_val rfl rfl rfl rfl (R_loadA (vs := [_, _, _, _, _, _, _, _]) rfl ag54 rfl (mmD) rfl (atZ)) ?_
    refine WM_val rfl rfl rfl rfl (R_move rfl rfl) ?_
    refine WM_val rfl rfl rfl rfl (R_fieldAddr rfl fa43_4 rfl) ?_
    refine WM_val rfl rfl rfl rfl (R_load rfl sc26 rfl (mmD) rfl) ?_
    refine WM_val rfl rfl rfl rfl (R_byteStr rfl Tryz.underlying26 Tryz.underlying5 Tryz.underlying9 rfl hrb0 (pulls_mem (pqD : Pulls (N ++ M) _ _) hm0)) ?_
    refine WM_val rfl rfl rfl rfl (R_fieldAddr rfl fa43_3 rfl) ?_
    refine WM_val rfl rfl rfl rfl (R_load rfl sc41 rfl (mmD) rfl) ?_
    refine WM_val rfl rfl rfl rfl (R_move rfl rfl) ?_
    refine WM_val rfl rfl rfl rfl (R_move rfl rfl) ?_
    refine WM_do rfl rfl rfl rfl (D_call (calls_ok hg hpv ⟨a.data.toArray⟩ a.t ht (u.call a.data a.t).2.1 (u.call a.data a.t).2.2) rfl rfl rfl rfl (pqD)) ?_
    rintro _ _ ⟨_, ⟨g', hg', rfl, rfl⟩, rfl⟩
    refine ⟨⟨_, pqD⟩, ?_⟩
    refine WM_set (s := 55) (v := .bool true) rfl (by rw [byt_mk]; exact congrArg Value.bool (decide_eq_true rfl)) ?_
    refine WM_val rfl rfl rfl rfl (R_assign rfl rfl) ?_
    refine WM_do0 rfl rfl rfl (D_store (vs := [_, _, _, _, _, _, _, _]) rfl Tryz.sizeOf54 rfl rfl rfl rfl rfl (plD) (by exact Nat.le_of_ble_eq_true rfl)) ?_
    rintro _ _ rfl
    refine ⟨⟨_, pqD⟩, ?_⟩
    refine WM_val rfl rfl rfl rfl (R_assign rfl rfl) ?_
    refine WM_nil ?_
    refine WQ_code ?_
    refine WC_ret ?_
    refine WQ_ret rfl rfl (.cons (.tmp rfl) (.cons (.cell (vs := [_, _, _, _, _, _, _, _]) rfl ag54 (mmD) rfl (atZ)) (.cons (.tmp rfl) .nil))) rfl (by
        rw [byt_mk] at hg'
        rw [hA]
        exact ⟨p, g', m2, N, hg', hS2, rfl, rfl⟩) (pqD)
  · have hw0 : ¬ a.what = 0 := c1
    refine WC_seq ?_
    refine WC_region ?_
    refine WL_val rfl rfl rfl (R_eql rfl rfl rfl) ?_
    refine WL_val rfl rfl rfl (R_assign rfl rfl) ?_
    refine WL_nil ?_
    refine WQ_code ?_
    refine WC_dec rfl (fun c2 => ?_) (fun c2 => ?_)
    · have hA : u.actC a = (u.cancel a.id).1 := by unfold PC.actC; rw [if_neg hw0]; rw [if_pos c2]
      refine WC_seq ?_
      refine WC_region ?_
      refine WL_val rfl rfl rfl (R_loadA (vs := [_, _, _, _, _, _, _, _]) rfl ag54 rfl (mmD) rfl (atZ)) ?_
      refine WL_val rfl rfl rfl (R_fieldAddr rfl fa43_1 rfl) ?_
      refine WL_val rfl rfl rfl (R_load rfl sc3 rfl (mmD) rfl) ?_
      refine WL_do rfl rfl rfl (D_call (wcan_ok h hJ a.id (by omega) (by omega)) rfl rfl rfl rfl (pqD)) ?_
      rintro _ _ ⟨_, ⟨N, m2, hS2, rfl, rfl⟩, rfl⟩
      refine WL_val rfl rfl rfl (R_move rfl rfl) ?_
      refine WL_val rfl rfl rfl (R_extract rfl rfl rfl) ?_
      refine WL_val rfl rfl rfl (R_extract rfl rfl rfl) ?_
      refine WL_do rfl rfl rfl (D_alloc rfl zv54) ?_
      rintro _ _ ⟨b5, rfl, rfl⟩
      refine WL_do0 rfl rfl (D_store (vs := [_, _, _, _, _, _, _, _]) rfl Tryz.sizeOf54 rfl rfl rfl rfl rfl (plD) (by exact Nat.le_of_ble_eq_true rfl)) ?_
      rintro _ _ rfl
      refine WL_val rfl rfl rfl (R_assign rfl rfl) ?_
      refine WL_nil ?_
      refine WQ_code ?_
      refine WC_seq ?_
      refine WC_drawR (⟨some b3, _⟩ :: ([] ++ cH g)) [(0, true), (1, true), (2, true), (3, true), (4, true), (6, true), (5, false), (7, true), (8, true), (9, false), (10, true)] followsMixed rfl rfl (by kernel_rfl) (pqD) ?_
      refine WM_val rfl rfl rfl rfl (R_move rfl rfl) ?_
      refine WM_val rfl rfl rfl rfl (R_loadA (vs := [_, _, _, _, _, _, _, _]) rfl ag54 rfl (mmD) rfl (atZ)) ?_
      refine WM_val rfl rfl rfl rfl (R_move rfl rfl) ?_
      refine WM_val rfl rfl rfl rfl (R_fieldAddr rfl fa43_1 rfl) ?_
      refine WM_val rfl rfl rfl rfl (R_load rfl sc3 rfl (mmD) rfl) ?_
      refine WM_val rfl rfl rfl rfl (R_move rfl rfl) ?_
      refine WM_do rfl rfl rfl rfl (D_call (k_cancel hg hpv a.id) rfl rfl rfl rfl (pqD)) ?_
      rintro _ _ ⟨_, ⟨g', hg', rfl, rfl⟩, rfl⟩
      refine ⟨⟨_, pqD⟩, ?_⟩
      refine WM_val rfl rfl rfl rfl (R_eql rfl rfl rfl) ?_
      refine WM_set (s := 72) (v := .bool true) rfl (by exact congrArg Value.bool (decide_eq_true rfl)) ?_
      refine WM_val rfl rfl rfl rfl (R_assign rfl rfl) ?_
      refine WM_do0 rfl rfl rfl (D_store (vs := [_, _, _, _, _, _, _, _]) rfl Tryz.sizeOf54 rfl rfl rfl rfl rfl (plD) (by exact Nat.le_of_ble_eq_true rfl)) ?_
      rintro _ _ rfl
      refine ⟨⟨_, pqD⟩, ?_⟩
      refine WM_val rfl rfl rfl rfl (R_assign rfl rfl) ?_
      refine WM_nil ?_
      refine WQ_code ?_
      refine WC_ret ?_
      refine WQ_ret rfl rfl (.cons (.tmp rfl) (.cons (.cell (vs := [_, _, _, _, _, _, _, _]) rfl ag54 (mmD) rfl (atZ)) (.cons (.tmp rfl) .nil))) rfl (by
          rw [hA]
          exact ⟨p, g', m2, N, hg', hS2, rfl, rfl⟩) (pqD)
    · have hw1 : ¬ a.what = 1 := c2
      refine WC_seq ?_
      refine WC_region ?_
      refine WL_val rfl rfl rfl (R_eql rfl rfl rfl) ?_
      refine WL_val rfl rfl rfl (R_assign rfl rfl) ?_
      refine WL_nil ?_
      refine WQ_code ?_
      refine WC_dec rfl (fun c3 => ?_) (fun c3 => ?_)
      · have hA : u.actC a = (u.advance a.t).1 := by unfold PC.actC; rw [if_neg hw0]; rw [if_neg hw1]; rw [if_pos c3]
        refine WC_seq ?_
        refine WC_region ?_
        refine WL_val rfl rfl rfl (R_loadA (vs := [_, _, _, _, _, _, _, _]) rfl ag54 rfl (mmD) rfl (atZ)) ?_
        refine WL_val rfl rfl rfl (R_fieldAddr rfl fa43_3 rfl) ?_
        refine WL_val rfl rfl rfl (R_load rfl sc41 rfl (mmD) rfl) ?_
        refine WL_do rfl rfl rfl (D_call (wadv_ok h hJ a.t ht hB4 hdl (by omega) (by omega)) rfl rfl rfl rfl (pqD)) ?_
        rintro _ _ ⟨_, ⟨N, m2, hS2, rfl, rfl⟩, rfl⟩
        refine WL_val rfl rfl rfl (R_move rfl rfl) ?_
        refine WL_val rfl rfl rfl (R_extract rfl rfl rfl) ?_
        refine WL_val rfl rfl rfl (R_extract rfl rfl rfl) ?_
        refine WL_do rfl rfl rfl (D_alloc rfl zv54) ?_
        rintro _ _ ⟨b6, rfl, rfl⟩
        refine WL_do0 rfl rfl (D_store (vs := [_, _, _, _, _, _, _, _]) rfl Tryz.sizeOf54 rfl rfl rfl rfl rfl (plD) (by exact Nat.le_of_ble_eq_true rfl)) ?_
        rintro _ _ rfl
        refine WL_val rfl rfl rfl (R_assign rfl rfl) ?_
        refine WL_nil ?_
        refine WQ_code ?_
        refine WC_seq ?_
        refine WC_drawR (⟨some b3, _⟩ :: ([] ++ cH g)) [(0, true), (1, true), (2, true), (3, true), (4, true), (6, true), (5, false), (7, true), (8, true), (9, false), (10, true)] followsMixed rfl rfl (by kernel_rfl) (pqD) ?_
        refine WM_val rfl rfl rfl rfl (R_move rfl rfl) ?_
        refine WM_val rfl rfl rfl rfl (R_loadA (vs := [_, _, _, _, _, _, _, _]) rfl ag54 rfl (mmD) rfl (atZ)) ?_
        refine WM_val rfl rfl rfl rfl (R_move rfl rfl) ?_
        refine WM_val rfl rfl rfl rfl (R_fieldAddr rfl fa43_3 rfl) ?_
        refine WM_val rfl rfl rfl rfl (R_load rfl sc41 rfl (mmD) rfl) ?_
        refine WM_val rfl rfl rfl rfl (R_move rfl rfl) ?_
        refine WM_do rfl rfl rfl rfl (D_call (k_adv hg hpv a.t) rfl rfl rfl rfl (pqD)) ?_
        rintro _ _ ⟨_, ⟨g', hg', rfl, rfl⟩, rfl⟩
        refine ⟨⟨_, pqD⟩, ?_⟩
        refine WM_val rfl rfl rfl rfl (R_eql rfl rfl rfl) ?_
        refine WM_set (s := 89) (v := .bool true) rfl (by exact congrArg Value.bool (decide_eq_true rfl)) ?_
        refine WM_val rfl rfl rfl rfl (R_assign rfl rfl) ?_
        refine WM_do0 rfl rfl rfl (D_store (vs := [_, _, _, _, _, _, _, _]) rfl Tryz.sizeOf54 rfl rfl rfl rfl rfl (plD) (by exact Nat.le_of_ble_eq_true rfl)) ?_
        rintro _ _ rfl
        refine ⟨⟨_, pqD⟩, ?_⟩
        refine WM_val rfl rfl rfl rfl (R_assign rfl rfl) ?_
        refine WM_nil ?_
        refine WQ_code ?_
        refine WC_ret ?_
        refine WQ_ret rfl rfl (.cons (.tmp rfl) (.cons (.cell (vs := [_, _, _, _, _, _, _, _]) rfl ag54 (mmD) rfl (atZ)) (.cons (.tmp rfl) .nil))) rfl (by
            rw [hA]
            exact ⟨p, g', m2, N, hg', hS2, rfl, rfl⟩) (pqD)
      · have hw2 : ¬ a.what = 2 := c3
        refine WC_seq ?_
        refine WC_region ?_
        refine WL_val rfl rfl rfl (R_eql rfl rfl rfl) ?_
        refine WL_val rfl rfl rfl (R_assign rfl rfl) ?_
        refine WL_nil ?_
        refine WQ_code ?_
        refine WC_dec rfl (fun c4 => ?_) (fun c4 => ?_)
        · have hA : u.actC a = (u.recv a.data).1 := by unfold PC.actC; rw [if_neg hw0]; rw [if_neg hw1]; rw [if_neg hw2]; rw [if_pos c4]
          refine WC_seq ?_
          refine WC_region ?_
          refine WL_val rfl rfl rfl (R_loadA (vs := [_, _, _, _, _, _, _, _]) rfl ag54 rfl (mmD) rfl (atZ)) ?_
          refine WL_val rfl rfl rfl (R_fieldAddr rfl fa43_4 rfl) ?_
          refine WL_val rfl rfl rfl (R_load rfl sc26 rfl (mmD) rfl) ?_
          refine WL_do rfl rfl rfl (D_call (wcrcv_ok h hJ hd (by omega) (by omega) (by omega)) rfl rfl rfl rfl (pqD)) ?_
          rintro _ _ ⟨_, ⟨N, m2, hS2, rfl, rfl⟩, rfl⟩
          refine WL_val rfl rfl rfl (R_move rfl rfl) ?_
          refine WL_val rfl rfl rfl (R_extract rfl rfl rfl) ?_
          refine WL_val rfl rfl rfl (R_extract rfl rfl rfl) ?_
          refine WL_do rfl rfl rfl (D_alloc rfl zv54) ?_
          rintro _ _ ⟨b7, rfl, rfl⟩
          refine WL_do0 rfl rfl (D_store (vs := [_, _, _, _, _, _, _, _]) rfl Tryz.sizeOf54 rfl rfl rfl rfl rfl (plD) (by exact Nat.le_of_ble_eq_true rfl)) ?_
          rintro _ _ rfl
          refine WL_val rfl rfl rfl (R_assign rfl rfl) ?_
          refine WL_nil ?_
          refine WQ_code ?_
          refine WC_seq ?_
          refine WC_region ?_
          refine WL_val rfl rfl rfl (R_fieldAddr rfl fa43_4 rfl) ?_
          refine WL_val rfl rfl rfl (R_load rfl sc26 rfl (mmD) rfl) ?_
          obtain ⟨ent0, hm0, hrb0⟩ := hd.b
          refine WL_do rfl rfl rfl (D_appendIn rfl si26 rfl rfl (RdM.inn (hd.up N) pqD) (by rw [Nat.mul_one]; exact bvs_len a.data) (by omega) (by omega)) ?_
          rintro _ _ ⟨o5, c5, tl5, rfl, own5, rfl⟩
          refine WL_val rfl rfl rfl (R_assign rfl rfl) ?_
          refine WL_nil ?_
          refine WQ_code ?_
          refine WC_seq ?_
          refine WC_region ?_
          refine WL_val rfl rfl rfl (R_move rfl rfl) ?_
          refine WL_val rfl rfl rfl (R_move rfl rfl) ?_
          refine WL_do rfl rfl rfl (D_call (k_recv hg hpv (RdB.own own5) (by omega)) rfl rfl rfl rfl (pqD)) ?_
          rintro _ _ ⟨_, ⟨g', hg', rfl, rfl⟩, rfl⟩
          refine WL_val rfl rfl rfl (R_assign rfl rfl) ?_
          refine WL_nil ?_
          refine WQ_code ?_
          refine WC_seq ?_
          refine WC_seq ?_
          refine WC_region ?_
          refine WL_val rfl rfl rfl (R_assign rfl rfl) ?_
          refine WL_nil ?_
          refine WQ_code ?_
          refine WC_block ?_
          refine WC_loopF (G := OwW) [20, 105, 106, 107, 108, 109, 110, 111, 112, 113, 114, 115, 116, 117, 118] (fun y => y.i ≤ a.data.length ∧ y.L.length = a.data.length ∧ Own o5 y.L.length c5 1 (bvs y.L) tl5) (fun y => [(20, .int .i64 (y.i : Int))]) (fun y => [⟨o5, cl (bvs y.L ++ tl5) 5⟩]) (fun y => a.data.length - y.i) (⟨0, a.data⟩) (⟨Nat.zero_le _, rfl, own5⟩) leZ (pqD) ?_
          rintro y ⟨hyi, hyl, ownS5⟩
          refine WC_seq ?_
          refine WC_seq ?_
          refine WC_region ?_
          refine WL_val rfl rfl rfl (R_move rfl rfl) ?_
          refine WL_val rfl rfl rfl (R_move rfl rfl) ?_
          refine WL_val rfl rfl rfl (R_len rfl Tryz.underlying26 rfl) ?_
          refine WL_val rfl rfl rfl (R_lss rfl rfl rfl) ?_
          refine WL_nil ?_
          refine WQ_code ?_
          refine WC_dec rfl (fun c5 => ?_) (fun c5 => ?_)
          · refine WC_skip ?_
            refine WQ_code ?_
            refine WC_seq ?_
            refine WC_block ?_
            refine WC_region ?_
            refine WL_val rfl rfl rfl (R_move rfl rfl) ?_
            refine WL_val rfl rfl rfl (R_move rfl rfl) ?_
            refine WL_val rfl rfl rfl (R_move rfl rfl) ?_
            refine WL_val rfl rfl rfl (R_move rfl rfl) ?_
            obtain ⟨wb, hwb⟩ := ownS5.some_of (by omega)
            obtain ⟨x, hx⟩ := getE (T := y.L) (i := y.i) (by omega)
            refine WL_val rfl rfl rfl (R_idxO hwb rfl Tryz.underlying26 Tryz.sizeOf5 rfl rfl (by omega)) ?_
            refine WL_val rfl rfl rfl (R_loadO (v := .int .u8 (x.toNat : Int)) hwb rfl sc5 rfl (mmD) (fm_get0 encY1 hx (j := 0) (by omega))) ?_
            refine WL_val rfl rfl rfl (R_xor8 rfl rfl) ?_
            refine WL_val rfl rfl rfl (R_idxO hwb rfl Tryz.underlying26 Tryz.sizeOf5 rfl rfl (by omega)) ?_
            refine WL_do0 rfl rfl (D_storeO (vs := [_]) hwb rfl Tryz.sizeOf5 rfl rfl rfl rfl rfl (plD) (by exact fm_room0 encY1 (show y.i < y.L.length by omega) (j := 0) (by omega))) ?_
            rintro _ _ rfl
            have hput := fm_put0 encY1 (xorB x) hx (j := 0) (vs := encY (xorB x)) (by simp) rfl (tl := tl5)
            rw [Nat.add_zero] at hput
            rw [hput]
            refine WL_nil ?_
            refine WQ_code ?_
            refine WC_region ?_
            refine WL_val rfl rfl rfl (R_move rfl rfl) ?_
            refine WL_val rfl rfl rfl (R_add rfl rfl rfl (by omega)) ?_
            refine WL_val rfl rfl rfl (R_assign rfl rfl) ?_
            refine WL_nil ?_
            refine WQ_nextF (gg := y) (⟨y.i + 1, y.L.set y.i (xorB x)⟩) (⟨by dsimp only; omega, by dsimp only; rw [List.length_set]; exact hyl, own_set ownS5 hx⟩) (by dsimp only; omega) leZ (psZ) rfl (pqD)
          · refine WC_exit ?_
            refine WQ_code ?_
            refine WC_seq ?_
            refine WC_drawR [⟨some b3, _⟩] [(0, true), (1, true), (2, true), (3, true), (4, true), (5, true), (6, false), (7, true)] followsMixed rfl rfl (by kernel_rfl) (pqD) ?_
            refine WM_val rfl rfl rfl rfl (R_move rfl rfl) ?_
            refine WM_val rfl rfl rfl rfl (R_loadA (vs := [_, _, _, _, _, _, _, _]) rfl ag54 rfl (mmD) rfl (atZ)) ?_
            refine WM_val rfl rfl rfl rfl (R_move rfl rfl) ?_
            refine WM_val rfl rfl rfl rfl (R_move rfl rfl) ?_
            refine WM_val rfl rfl rfl rfl (R_eql rfl rfl rfl) ?_
            refine WM_set (s := 123) (v := .bool true) rfl (by exact congrArg Value.bool (decide_eq_true rfl)) ?_
            refine WM_val rfl rfl rfl rfl (R_assign rfl rfl) ?_
            refine WM_do0 rfl rfl rfl (D_store (vs := [_, _, _, _, _, _, _, _]) rfl Tryz.sizeOf54 rfl rfl rfl rfl rfl (plD) (by exact Nat.le_of_ble_eq_true rfl)) ?_
            rintro _ _ rfl
            refine ⟨⟨_, pqD⟩, ?_⟩
            refine WM_val rfl rfl rfl rfl (R_assign rfl rfl) ?_
            refine WM_nil ?_
            refine WQ_code ?_
            refine WC_ret ?_
            refine WQ_ret rfl rfl (.cons (.tmp rfl) (.cons (.cell (vs := [_, _, _, _, _, _, _, _]) rfl ag54 (mmD) rfl (atZ)) (.cons (.tmp rfl) .nil))) rfl (by
                rw [hA]
                exact ⟨p, g', m2, N, hg', hS2, rfl, rfl⟩) (pqD)
        · have hw3 : ¬ a.what = 3 := c4
          refine WC_seq ?_
          refine WC_region ?_
          refine WL_val rfl rfl rfl (R_eql rfl rfl rfl) ?_
          refine WL_val rfl rfl rfl (R_assign rfl rfl) ?_
          refine WL_nil ?_
          refine WQ_code ?_
          refine WC_dec rfl (fun c6 => ?_) (fun c6 => ?_)
          · have hA : u.actC a = u.close.1 := by unfold PC.actC; rw [if_neg hw0]; rw [if_neg hw1]; rw [if_neg hw2]; rw [if_neg hw3]; rw [if_pos c6]
            refine WC_seq ?_
            refine WC_region ?_
            refine WL_val rfl rfl rfl (R_loadA (vs := [_, _, _, _, _, _, _, _]) rfl ag54 rfl (mmD) rfl (atZ)) ?_
            refine WL_do rfl rfl rfl (D_call (wclo_ok h hJ (by omega)) rfl rfl rfl rfl (pqD)) ?_
            rintro _ _ ⟨_, ⟨N, m2, hS2, rfl, rfl⟩, rfl⟩
            refine WL_val rfl rfl rfl (R_move rfl rfl) ?_
            refine WL_val rfl rfl rfl (R_extract rfl rfl rfl) ?_
            refine WL_val rfl rfl rfl (R_extract rfl rfl rfl) ?_
            refine WL_do rfl rfl rfl (D_alloc rfl zv54) ?_
            rintro _ _ ⟨b8, rfl, rfl⟩
            refine WL_do0 rfl rfl (D_store (vs := [_, _, _, _, _, _, _, _]) rfl Tryz.sizeOf54 rfl rfl rfl rfl rfl (plD) (by exact Nat.le_of_ble_eq_true rfl)) ?_
            rintro _ _ rfl
            refine WL_val rfl rfl rfl (R_assign rfl rfl) ?_
            refine WL_nil ?_
            refine WQ_code ?_
            refine WC_seq ?_
            refine WC_drawR (⟨some b3, _⟩ :: ([] ++ cH g)) [(0, true), (1, true), (2, true), (4, true), (3, false), (5, true), (6, true), (7, false), (8, true)] followsMixed rfl rfl (by kernel_rfl) (pqD) ?_
            refine WM_val rfl rfl rfl rfl (R_move rfl rfl) ?_
            refine WM_val rfl rfl rfl rfl (R_loadA (vs := [_, _, _, _, _, _, _, _]) rfl ag54 rfl (mmD) rfl (atZ)) ?_
            refine WM_val rfl rfl rfl rfl (R_move rfl rfl) ?_
            refine WM_val rfl rfl rfl rfl (R_move rfl rfl) ?_
            refine WM_do rfl rfl rfl rfl (D_call (k_close hg hpv) rfl rfl rfl rfl (pqD)) ?_
            rintro _ _ ⟨_, ⟨g', hg', rfl, rfl⟩, rfl⟩
            refine ⟨⟨_, pqD⟩, ?_⟩
            refine WM_val rfl rfl rfl rfl (R_eql rfl rfl rfl) ?_
            refine WM_set (s := 136) (v := .bool true) rfl (by exact congrArg Value.bool (decide_eq_true rfl)) ?_
            refine WM_val rfl rfl rfl rfl (R_assign rfl rfl) ?_
            refine WM_do0 rfl rfl rfl (D_store (vs := [_, _, _, _, _, _, _, _]) rfl Tryz.sizeOf54 rfl rfl rfl rfl rfl (plD) (by exact Nat.le_of_ble_eq_true rfl)) ?_
            rintro _ _ rfl
            refine ⟨⟨_, pqD⟩, ?_⟩
            refine WM_val rfl rfl rfl rfl (R_assign rfl rfl) ?_
            refine WM_nil ?_
            refine WQ_code ?_
            refine WC_ret ?_
            refine WQ_ret rfl rfl (.cons (.tmp rfl) (.cons (.cell (vs := [_, _, _, _, _, _, _, _]) rfl ag54 (mmD) rfl (atZ)) (.cons (.tmp rfl) .nil))) rfl (by
                rw [hA]
                exact ⟨p, g', m2, N, hg', hS2, rfl, rfl⟩) (pqD)
          · have hw4 : ¬ a.what = 4 := c6
            refine WC_seq ?_
            refine WC_region ?_
            refine WL_val rfl rfl rfl (R_eql rfl rfl rfl) ?_
            refine WL_val rfl rfl rfl (R_assign rfl rfl) ?_
            refine WL_nil ?_
            refine WQ_code ?_
            refine WC_dec rfl (fun c7 => ?_) (fun c7 => ?_)
            · have hA : u.actC a = u.next.1 := by unfold PC.actC; rw [if_neg hw0]; rw [if_neg hw1]; rw [if_neg hw2]; rw [if_neg hw3]; rw [if_neg hw4]; rw [if_pos c7]
              refine WC_seq ?_
              refine WC_seq ?_
              refine WC_region ?_
              rcases hq : m.R with _ | ⟨w, rest⟩
              · have hqu : u.res = [] := by rw [← h.rv, hq]; rfl
                have hA2 : u.actC a = u := by rw [hA]; unfold PC.next; rw [hqu]
                rw [← hq]
                refine WL_val rfl rfl rfl (R_fieldAddr rfl fa54_3 rfl) ?_
                refine WL_val rfl rfl rfl (R_load rfl sc49 rfl (mmD) rfl) ?_
                refine WL_val rfl rfl rfl (R_len rfl Tryz.underlying49 rfl) ?_
                refine WL_val rfl rfl rfl (R_eql rfl rfl rfl) ?_
                refine WL_set (s := 142) (v := .bool true) rfl (by exact congrArg Value.bool (decide_eq_true (by rw [hq]; rfl))) ?_
                refine WL_nil ?_
                refine WQ_code ?_
                refine WC_T rfl ?_
                refine WC_seq ?_
                refine WC_region ?_
                refine WL_val rfl rfl rfl (R_move rfl rfl) ?_
                refine WL_do rfl rfl rfl (D_call (k_next0 hg hpv hqu) rfl rfl rfl rfl (pqD)) ?_
                rintro _ _ ⟨_, ⟨g', hg', rfl, rfl⟩, rfl⟩
                refine WL_val rfl rfl rfl (R_move rfl rfl) ?_
                refine WL_val rfl rfl rfl (R_extract rfl rfl rfl) ?_
                refine WL_val rfl rfl rfl (R_extract rfl rfl rfl) ?_
                refine WL_do rfl rfl rfl (D_alloc rfl zv89) ?_
                rintro _ _ ⟨b9, rfl, rfl⟩
                refine WL_do0 rfl rfl (D_store (vs := [_, _, _]) rfl Tryz.sizeOf89 rfl rfl rfl rfl rfl (plD) (by exact Nat.le_of_ble_eq_true rfl)) ?_
                rintro _ _ rfl
                refine WL_val rfl rfl rfl (R_assign rfl rfl) ?_
                refine WL_nil ?_
                refine WQ_code ?_
                refine WC_seq ?_
                refine WC_drawR [⟨some b3, _⟩] [(0, true), (1, true), (2, true), (3, true), (4, true), (5, false), (6, true)] followsMixed rfl rfl (by kernel_rfl) (pqD) ?_
                refine WM_val rfl rfl rfl rfl (R_move rfl rfl) ?_
                refine WM_val rfl rfl rfl rfl (R_loadA (vs := [_, _, _, _, _, _, _, _]) rfl ag54 rfl (mmD) rfl (atZ)) ?_
                refine WM_val rfl rfl rfl rfl (R_move rfl rfl) ?_
                refine WM_val rfl rfl rfl rfl (R_not rfl rfl) ?_
                refine WM_val rfl rfl rfl rfl (R_assign rfl rfl) ?_
                refine WM_do0 rfl rfl rfl (D_store (vs := [_, _, _, _, _, _, _, _]) rfl Tryz.sizeOf54 rfl rfl rfl rfl rfl (plD) (by exact Nat.le_of_ble_eq_true rfl)) ?_
                rintro _ _ rfl
                refine ⟨⟨_, pqD⟩, ?_⟩
                refine WM_val rfl rfl rfl rfl (R_assign rfl rfl) ?_
                refine WM_nil ?_
                refine WQ_code ?_
                refine WC_ret ?_
                refine WQ_ret rfl rfl (.cons (.tmp rfl) (.cons (.cell (vs := [_, _, _, _, _, _, _, _]) rfl ag54 (mmD) rfl (atZ)) (.cons (.tmp rfl) .nil))) rfl (by
                    rw [hA2]
                    exact ⟨p, g', m, [], hg', h, rfl, rfl⟩) (pqD)
              · obtain ⟨hqu, hS2⟩ := h.next hq
                have hA2 : u.actC a = { u with res := rest.map Rx.v } := by rw [hA]; unfold PC.next; rw [hqu]
                obtain ⟨ent, hm, hr9⟩ := h.res
                obtain ⟨rb, rk, rcs, re, rfr, hoa, rfl, hat⟩ := hr9 (by rw [hq]; simp)
                obtain ⟨ent2, hm2, hrb2⟩ := (h.rb w (by rw [hq]; exact List.mem_cons_self ..)).b
                have hqp : 0 < m.R.length := by rw [hq]; simp
                rw [← hq, hoa]
                rw [hoa] at hS2
                refine WL_val rfl rfl rfl (R_fieldAddr rfl fa54_3 rfl) ?_
                refine WL_val rfl rfl rfl (R_load rfl sc49 rfl (mmD) rfl) ?_
                refine WL_val rfl rfl rfl (R_len rfl Tryz.underlying49 rfl) ?_
                refine WL_val rfl rfl rfl (R_eql rfl rfl rfl) ?_
                refine WL_set (s := 142) (v := .bool false) rfl (by exact congrArg Value.bool (decide_eq_false (by rw [hq, List.length_cons]; omega))) ?_
                refine WL_nil ?_
                refine WQ_code ?_
                refine WC_F rfl ?_
                refine WC_skip ?_
                refine WQ_code ?_
                refine WC_seq ?_
                refine WC_region ?_
                refine WL_val rfl rfl rfl (R_fieldAddr rfl fa54_3 rfl) ?_
                refine WL_val rfl rfl rfl (R_load rfl sc49 rfl (mmD) rfl) ?_
                refine WL_val rfl rfl rfl (R_indexAddr rfl Tryz.underlying49 Tryz.sizeOf89 rfl rfl (by omega)) ?_
                refine WL_val rfl rfl rfl (R_loadAG (vs := encX w) rfl ag89 rfl (pulls_mem (pqD : Pulls M _ _) hm) rfl (At.fm hat encX3 (i := 0) (x := w) (by rw [hq]; rfl))) ?_
                refine WL_do rfl rfl rfl (D_alloc rfl zv89) ?_
                rintro _ _ ⟨b10, rfl, rfl⟩
                refine WL_do0 rfl rfl (D_store (vs := [_, _, _]) rfl Tryz.sizeOf89 rfl rfl rfl rfl rfl (plD) (by exact Nat.le_of_ble_eq_true rfl)) ?_
                rintro _ _ rfl
                refine WL_nil ?_
                refine WQ_code ?_
                refine WC_seq ?_
                refine WC_region ?_
                refine WL_val rfl rfl rfl (R_fieldAddr rfl fa54_3 rfl) ?_
                refine WL_val rfl rfl rfl (R_load rfl sc49 rfl (mmD) rfl) ?_
                refine WL_val rfl rfl rfl (R_sliceFromG (m := 1) rfl Tryz.underlying49 Tryz.sizeOf89 rfl rfl (by rw [hq]; simp)) ?_
                rw [show m.R.length - 1 = (m.R.drop 1).length from by simp]
                refine WL_val rfl rfl rfl (R_fieldAddr rfl fa54_3 rfl) ?_
                refine WL_do0 rfl rfl (D_store (vs := [_]) rfl Tryz.sizeOf49 rfl rfl rfl rfl rfl (plD) (by exact Nat.le_of_ble_eq_true rfl)) ?_
                rintro _ _ rfl
                refine WL_nil ?_
                refine WQ_code ?_
                refine WC_seq ?_
                refine WC_drawR (⟨some b3, _⟩ :: ([] ++ cH g)) [(0, true), (1, true), (2, true), (3, true), (4, true), (5, true), (6, true), (7, true), (8, true), (9, true), (10, false), (11, true), (12, false), (13, true)] followsMixed rfl rfl (by kernel_rfl) (pqD) ?_
                refine WM_val rfl rfl rfl rfl (R_move rfl rfl) ?_
                refine WM_val rfl rfl rfl rfl (R_loadA (vs := [_, _, _, _, _, _, _, _]) rfl ag54 rfl (mmD) rfl (atZ)) ?_
                refine WM_val rfl rfl rfl rfl (R_move rfl rfl) ?_
                refine WM_val rfl rfl rfl rfl (R_fieldAddr rfl fa89_0 rfl) ?_
                refine WM_val rfl rfl rfl rfl (R_load rfl sc3 rfl (mmD) rfl) ?_
                refine WM_val rfl rfl rfl rfl (R_fieldAddr rfl fa89_1 rfl) ?_
                refine WM_val rfl rfl rfl rfl (R_load rfl sc27 rfl (mmD) rfl) ?_
                refine WM_val rfl rfl rfl rfl (R_fieldAddr rfl fa89_2 rfl) ?_
                refine WM_val rfl rfl rfl rfl (R_load rfl sc26 rfl (mmD) rfl) ?_
                refine WM_val rfl rfl rfl rfl (R_byteStr rfl Tryz.underlying26 Tryz.underlying5 Tryz.underlying9 rfl hrb2 (pulls_mem (pqD : Pulls M _ _) hm2)) ?_
                refine WM_do rfl rfl rfl rfl (D_call (ends_ok hg hpv w.id w.code _ hrs) rfl rfl rfl rfl (pqD)) ?_
                rintro _ _ ⟨_, ⟨g', hg', rfl, rfl⟩, rfl⟩
                refine ⟨⟨_, pqD⟩, ?_⟩
                refine WM_set (s := 170) (v := .bool true) rfl (by rw [ends_self hqu]) ?_
                refine WM_val rfl rfl rfl rfl (R_assign rfl rfl) ?_
                refine WM_do0 rfl rfl rfl (D_store (vs := [_, _, _, _, _, _, _, _]) rfl Tryz.sizeOf54 rfl rfl rfl rfl rfl (plD) (by exact Nat.le_of_ble_eq_true rfl)) ?_
                rintro _ _ rfl
                refine ⟨⟨_, pqD⟩, ?_⟩
                refine WM_val rfl rfl rfl rfl (R_assign rfl rfl) ?_
                refine WM_nil ?_
                refine WQ_code ?_
                refine WC_ret ?_
                refine WQ_ret rfl rfl (.cons (.tmp rfl) (.cons (.cell (vs := [_, _, _, _, _, _, _, _]) rfl ag54 (mmD) rfl (atZ)) (.cons (.tmp rfl) .nil))) rfl (by
                    rw [hA2]
                    have hg2 : CGd g' p { u with res := rest.map Rx.v } := by unfold PC.next at hg'; rw [hqu] at hg'; exact hg'
                    exact ⟨p, g', _, [], hg2, hS2, rfl, rfl⟩) (pqD)
            · have hw5 : ¬ a.what = 5 := c7
              refine WC_seq ?_
              refine WC_region ?_
              refine WL_val rfl rfl rfl (R_eql rfl rfl rfl) ?_
              refine WL_val rfl rfl rfl (R_assign rfl rfl) ?_
              refine WL_nil ?_
              refine WQ_code ?_
              refine WC_dec rfl (fun c8 => ?_) (fun c8 => ?_)
              · have hA : u.actC a = (u.take a.n).1 := by unfold PC.actC; rw [if_neg hw0]; rw [if_neg hw1]; rw [if_neg hw2]; rw [if_neg hw3]; rw [if_neg hw4]; rw [if_neg hw5]; rw [if_pos c8]
                refine WC_seq ?_
                refine WC_region ?_
                rcases Classical.em (a.n < 0 ∨ 65536 < a.n) with hn | hn
                · have hA2 : u.actC a = u := by rw [hA]; unfold PC.take; rw [if_pos hn]
                  refine WL_val rfl rfl rfl (R_move rfl rfl) ?_
                  refine WL_val rfl rfl rfl (R_fieldAddr rfl fa43_2 rfl) ?_
                  refine WL_val rfl rfl rfl (R_load rfl sc3 rfl (mmD) rfl) ?_
                  refine WL_do rfl rfl rfl (D_call (k_out0 hg hpv a.n hn) rfl rfl rfl rfl (pqD)) ?_
                  rintro _ _ ⟨_, ⟨g', hg', rfl, rfl⟩, rfl⟩
                  refine WL_val rfl rfl rfl (R_move rfl rfl) ?_
                  refine WL_val rfl rfl rfl (R_extract rfl rfl rfl) ?_
                  refine WL_val rfl rfl rfl (R_extract rfl rfl rfl) ?_
                  refine WL_val rfl rfl rfl (R_assign rfl rfl) ?_
                  refine WL_val rfl rfl rfl (R_assign rfl rfl) ?_
                  refine WL_nil ?_
                  refine WQ_code ?_
                  refine WC_seq ?_
                  refine WC_region ?_
                  refine WL_val rfl rfl rfl (R_fieldAddr rfl fa54_4 rfl) ?_
                  refine WL_val rfl rfl rfl (R_load rfl sc26 rfl (mmD) rfl) ?_
                  refine WL_val rfl rfl rfl (R_fieldAddr rfl fa43_2 rfl) ?_
                  refine WL_val rfl rfl rfl (R_load rfl sc3 rfl (mmD) rfl) ?_
                  refine WL_val rfl rfl rfl (R_move rfl rfl) ?_
                  refine WL_val rfl rfl rfl (R_move rfl rfl) ?_
                  refine WL_do rfl rfl rfl (D_call (taken_bad (M := M) a.n hn) rfl rfl rfl rfl (pqD)) ?_
                  rintro _ _ ⟨_, ⟨rfl, rfl⟩, rfl⟩
                  refine WL_val rfl rfl rfl (R_move rfl rfl) ?_
                  refine WL_val rfl rfl rfl (R_extract rfl rfl rfl) ?_
                  refine WL_val rfl rfl rfl (R_extract rfl rfl rfl) ?_
                  refine WL_val rfl rfl rfl (R_assign rfl rfl) ?_
                  refine WL_val rfl rfl rfl (R_assign rfl rfl) ?_
                  refine WL_nil ?_
                  refine WQ_code ?_
                  refine WC_seq ?_
                  refine WC_region ?_
                  refine WL_val rfl rfl rfl (R_move rfl rfl) ?_
                  refine WL_val rfl rfl rfl (R_fieldAddr rfl fa54_4 rfl) ?_
                  refine WL_do0 rfl rfl (D_store (vs := [_]) rfl Tryz.sizeOf26 rfl rfl rfl rfl rfl (plD) (by exact Nat.le_of_ble_eq_true rfl)) ?_
                  rintro _ _ rfl
                  refine WL_nil ?_
                  refine WQ_code ?_
                  refine WC_seq ?_
                  refine WC_drawR [⟨some b3, _⟩] [(0, true), (1, true), (2, true), (3, true), (4, false), (5, true)] followsMixed rfl rfl (by kernel_rfl) (pqD) ?_
                  refine WM_val rfl rfl rfl rfl (R_move rfl rfl) ?_
                  refine WM_val rfl rfl rfl rfl (R_loadA (vs := [_, _, _, _, _, _, _, _]) rfl ag54 rfl (mmD) rfl (atZ)) ?_
                  refine WM_val rfl rfl rfl rfl (R_move rfl rfl) ?_
                  refine WM_val rfl rfl rfl rfl (R_assign rfl rfl) ?_
                  refine WM_do0 rfl rfl rfl (D_store (vs := [_, _, _, _, _, _, _, _]) rfl Tryz.sizeOf54 rfl rfl rfl rfl rfl (plD) (by exact Nat.le_of_ble_eq_true rfl)) ?_
                  rintro _ _ rfl
                  refine ⟨⟨_, pqD⟩, ?_⟩
                  refine WM_val rfl rfl rfl rfl (R_assign rfl rfl) ?_
                  refine WM_nil ?_
                  refine WQ_code ?_
                  refine WC_ret ?_
                  refine WQ_ret rfl rfl (.cons (.tmp rfl) (.cons (.cell (vs := [_, _, _, _, _, _, _, _]) rfl ag54 (mmD) rfl (atZ)) (.cons (.tmp rfl) .nil))) rfl (by
                      rw [hA2]
                      exact ⟨p, g', m, [], hg', h, rfl, rfl⟩) (pqD)
                · obtain ⟨kn, hkn⟩ : ∃ q : Nat, a.n = q := ⟨a.n.toNat, by omega⟩
                  have hA2 : u.actC a = { u with out := u.out.drop kn } := by rw [hA]; unfold PC.take; rw [if_neg hn, hkn]; rfl
                  rw [hkn]
                  refine WL_val rfl rfl rfl (R_move rfl rfl) ?_
                  refine WL_val rfl rfl rfl (R_fieldAddr rfl fa43_2 rfl) ?_
                  refine WL_val rfl rfl rfl (R_load rfl sc3 rfl (mmD) rfl) ?_
                  refine WL_do rfl rfl rfl (D_call (k_out1 hg hpv kn (by omega)) rfl rfl rfl rfl (pqD)) ?_
                  rintro _ _ ⟨_, ⟨g', o9, c9, tl9, hg', own9, rfl, rfl⟩, rfl⟩
                  refine WL_val rfl rfl rfl (R_move rfl rfl) ?_
                  refine WL_val rfl rfl rfl (R_extract rfl rfl rfl) ?_
                  refine WL_val rfl rfl rfl (R_extract rfl rfl rfl) ?_
                  refine WL_val rfl rfl rfl (R_assign rfl rfl) ?_
                  refine WL_val rfl rfl rfl (R_assign rfl rfl) ?_
                  refine WL_nil ?_
                  refine WQ_code ?_
                  refine WC_seq ?_
                  refine WC_region ?_
                  refine WL_val rfl rfl rfl (R_fieldAddr rfl fa54_4 rfl) ?_
                  refine WL_val rfl rfl rfl (R_load rfl sc26 rfl (mmD) rfl) ?_
                  refine WL_val rfl rfl rfl (R_fieldAddr rfl fa43_2 rfl) ?_
                  refine WL_val rfl rfl rfl (R_load rfl sc3 rfl (mmD) rfl) ?_
                  refine WL_val rfl rfl rfl (R_move rfl rfl) ?_
                  refine WL_val rfl rfl rfl (R_move rfl rfl) ?_
                  refine WL_do rfl rfl rfl (D_call (taken_ok (M := [⟨o9, cl (bvs (u.out.take kn) ++ tl9) 5⟩] ++ M) (h.out.up [⟨o9, cl (bvs (u.out.take kn) ++ tl9) 5⟩]) h.oc (by omega) kn (by omega) (RdM.own (e := 5) own9 M)) rfl rfl rfl rfl (pqD)) ?_
                  rintro _ _ ⟨_, ⟨oT, cT, rfl, hrT, hcT, rfl⟩, rfl⟩
                  refine WL_val rfl rfl rfl (R_move rfl rfl) ?_
                  refine WL_val rfl rfl rfl (R_extract rfl rfl rfl) ?_
                  refine WL_val rfl rfl rfl (R_extract rfl rfl rfl) ?_
                  refine WL_val rfl rfl rfl (R_assign rfl rfl) ?_
                  refine WL_val rfl rfl rfl (R_assign rfl rfl) ?_
                  refine WL_nil ?_
                  refine WQ_code ?_
                  refine WC_seq ?_
                  refine WC_region ?_
                  refine WL_val rfl rfl rfl (R_move rfl rfl) ?_
                  refine WL_val rfl rfl rfl (R_fieldAddr rfl fa54_4 rfl) ?_
                  refine WL_do0 rfl rfl (D_store (vs := [_]) rfl Tryz.sizeOf26 rfl rfl rfl rfl rfl (plD) (by exact Nat.le_of_ble_eq_true rfl)) ?_
                  rintro _ _ rfl
                  refine WL_nil ?_
                  refine WQ_code ?_
                  refine WC_seq ?_
                  refine WC_drawR [⟨some b3, _⟩] [(0, true), (1, true), (2, true), (3, true), (4, false), (5, true)] followsMixed rfl rfl (by kernel_rfl) (pqD) ?_
                  refine WM_val rfl rfl rfl rfl (R_move rfl rfl) ?_
                  refine WM_val rfl rfl rfl rfl (R_loadA (vs := [_, _, _, _, _, _, _, _]) rfl ag54 rfl (mmD) rfl (atZ)) ?_
                  refine WM_val rfl rfl rfl rfl (R_move rfl rfl) ?_
                  refine WM_val rfl rfl rfl rfl (R_assign rfl rfl) ?_
                  refine WM_do0 rfl rfl rfl (D_store (vs := [_, _, _, _, _, _, _, _]) rfl Tryz.sizeOf54 rfl rfl rfl rfl rfl (plD) (by exact Nat.le_of_ble_eq_true rfl)) ?_
                  rintro _ _ rfl
                  refine ⟨⟨_, pqD⟩, ?_⟩
                  refine WM_val rfl rfl rfl rfl (R_assign rfl rfl) ?_
                  refine WM_nil ?_
                  refine WQ_code ?_
                  refine WC_ret ?_
                  refine WQ_ret rfl rfl (.cons (.tmp rfl) (.cons (.cell (vs := [_, _, _, _, _, _, _, _]) rfl ag54 (mmD) rfl (atZ)) (.cons (.tmp rfl) .nil))) rfl (by
                      rw [hA2]
                      exact ⟨p, g', { m with a3 := oT, c3 := cT }, [⟨o9, cl (bvs (u.out.take kn) ++ tl9) 5⟩], hg', ⟨h.calls.up _, h.res.up _, h.rv, fun r hr => (h.rb r hr).up _, hrT, h.bs.up _, h.rc, hcT, h.bc⟩, rfl, rfl⟩) (pqD)
              · have hA : u.actC a = u := by unfold PC.actC; rw [if_neg hw0]; rw [if_neg hw1]; rw [if_neg hw2]; rw [if_neg hw3]; rw [if_neg hw4]; rw [if_neg hw5]; rw [if_neg c8]
                refine WC_skip ?_
                refine WQ_code ?_
                refine WC_seq ?_
                refine WC_region ?_
                refine WL_val rfl rfl rfl (R_move rfl rfl) ?_
                refine WL_do rfl rfl rfl (D_call (k_copy hg hpv hrs) rfl rfl rfl rfl (pqD)) ?_
                rintro _ _ ⟨_, ⟨gc, pc, hgc, rfl, rfl⟩, rfl⟩
                refine WL_val rfl rfl rfl (R_assign rfl rfl) ?_
                refine WL_nil ?_
                refine WQ_code ?_
                refine WC_seq ?_
                refine WC_region ?_
                refine WL_val rfl rfl rfl (R_move rfl rfl) ?_
                refine WL_do rfl rfl rfl (D_buildSlice rfl si26 rfl rfl rfl) ?_
                rintro _ _ ⟨b11, rfl, rfl⟩
                refine WL_do rfl rfl rfl (D_bytesConst rfl Tryz.underlying26 Tryz.underlying5 rfl plD) ?_
                rintro _ _ ⟨fr4, rfl, rfl⟩
                have hI1 := hI.call (by omega) [122, 122] 18446744073709551615 (by decide)
                refine WL_do rfl rfl rfl (D_call (k_call hg hpv (RdB.cst _ [122, 122]) 18446744073709551615 (by decide)) rfl rfl rfl rfl (pqD)) ?_
                rintro _ _ ⟨_, ⟨g1, hg1, rfl, rfl⟩, rfl⟩
                refine WL_nil ?_
                refine WQ_code ?_
                refine WC_seq ?_
                refine WC_region ?_
                rcases hq1 : (u.call [122, 122] 18446744073709551615).1.res with _ | ⟨rr, rest⟩
                · have hpv2 : PCB (u.call [122, 122] 18446744073709551615).1 := hI1.pcb (by omega)
                  refine WL_val rfl rfl rfl (R_move rfl rfl) ?_
                  refine WL_do rfl rfl rfl (D_call (k_next0 hg1 hpv2 hq1) rfl rfl rfl rfl (pqD)) ?_
                  rintro _ _ ⟨_, ⟨g2, hg2, rfl, rfl⟩, rfl⟩
                  refine WL_nil ?_
                  refine WQ_code ?_
                  refine WC_seq ?_
                  refine WC_region ?_
                  refine WL_val rfl rfl rfl (R_move rfl rfl) ?_
                  refine WL_do rfl rfl rfl (D_call (k_close hg2 hpv2) rfl rfl rfl rfl (pqD)) ?_
                  rintro _ _ ⟨_, ⟨g3, hg3, rfl, rfl⟩, rfl⟩
                  refine WL_nil ?_
                  refine WQ_code ?_
                  refine WC_seq ?_
                  refine WC_drawR [⟨some b3, _⟩] [(0, true), (1, true), (2, true), (3, true), (4, true), (5, false), (6, true)] followsMixed rfl rfl (by kernel_rfl) (pqD) ?_
                  refine WM_val rfl rfl rfl rfl (R_move rfl rfl) ?_
                  refine WM_val rfl rfl rfl rfl (R_loadA (vs := [_, _, _, _, _, _, _, _]) rfl ag54 rfl (mmD) rfl (atZ)) ?_
                  refine WM_val rfl rfl rfl rfl (R_move rfl rfl) ?_
                  refine WM_val rfl rfl rfl rfl (R_ptrNeNil rfl Tryz.underlying47 rfl) ?_
                  refine WM_val rfl rfl rfl rfl (R_assign rfl rfl) ?_
                  refine WM_do0 rfl rfl rfl (D_store (vs := [_, _, _, _, _, _, _, _]) rfl Tryz.sizeOf54 rfl rfl rfl rfl rfl (plD) (by exact Nat.le_of_ble_eq_true rfl)) ?_
                  rintro _ _ rfl
                  refine ⟨⟨_, pqD⟩, ?_⟩
                  refine WM_val rfl rfl rfl rfl (R_assign rfl rfl) ?_
                  refine WM_nil ?_
                  refine WQ_code ?_
                  refine WC_ret ?_
                  refine WQ_ret rfl rfl (.cons (.tmp rfl) (.cons (.cell (vs := [_, _, _, _, _, _, _, _]) rfl ag54 (mmD) rfl (atZ)) (.cons (.tmp rfl) .nil))) rfl (by
                      rw [hA]
                      exact ⟨pc, gc, m, [], hgc, h, rfl, rfl⟩) (pqD)
                · have hpv1 : PCB (u.call [122, 122] 18446744073709551615).1 := hI1.pcb (by omega)
                  have hpv2 : PCB { (u.call [122, 122] 18446744073709551615).1 with res := rest } := (hI1.nextX hq1).pcb (by omega)
                  refine WL_val rfl rfl rfl (R_move rfl rfl) ?_
                  refine WL_do rfl rfl rfl (D_call (k_next1 hg1 hpv1 hq1) rfl rfl rfl rfl (pqD)) ?_
                  rintro _ _ ⟨_, ⟨g2, o9, c9, tl9, hg2, own9, rfl, rfl⟩, rfl⟩
                  refine WL_nil ?_
                  refine WQ_code ?_
                  refine WC_seq ?_
                  refine WC_region ?_
                  refine WL_val rfl rfl rfl (R_move rfl rfl) ?_
                  refine WL_do rfl rfl rfl (D_call (k_close hg2 hpv2) rfl rfl rfl rfl (pqD)) ?_
                  rintro _ _ ⟨_, ⟨g3, hg3, rfl, rfl⟩, rfl⟩
                  refine WL_nil ?_
                  refine WQ_code ?_
                  refine WC_seq ?_
                  refine WC_drawR [⟨some b3, _⟩] [(0, true), (1, true), (2, true), (3, true), (4, true), (5, false), (6, true)] followsMixed rfl rfl (by kernel_rfl) (pqD) ?_
                  refine WM_val rfl rfl rfl rfl (R_move rfl rfl) ?_
                  refine WM_val rfl rfl rfl rfl (R_loadA (vs := [_, _, _, _, _, _, _, _]) rfl ag54 rfl (mmD) rfl (atZ)) ?_
                  refine WM_val rfl rfl rfl rfl (R_move rfl rfl) ?_
                  refine WM_val rfl rfl rfl rfl (R_ptrNeNil rfl Tryz.underlying47 rfl) ?_
                  refine WM_val rfl rfl rfl rfl (R_assign rfl rfl) ?_
                  refine WM_do0 rfl rfl rfl (D_store (vs := [_, _, _, _, _, _, _, _]) rfl Tryz.sizeOf54 rfl rfl rfl rfl rfl (plD) (by exact Nat.le_of_ble_eq_true rfl)) ?_
                  rintro _ _ rfl
                  refine ⟨⟨_, pqD⟩, ?_⟩
                  refine WM_val rfl rfl rfl rfl (R_assign rfl rfl) ?_
                  refine WM_nil ?_
                  refine WQ_code ?_
                  refine WC_ret ?_
                  refine WQ_ret rfl rfl (.cons (.tmp rfl) (.cons (.cell (vs := [_, _, _, _, _, _, _, _]) rfl ag54 (mmD) rfl (atZ)) (.cons (.tmp rfl) .nil))) rfl (by
                      rw [hA]
                      exact ⟨pc, gc, m, [], hgc, h, rfl, rfl⟩) (pqD)
end Go.Proofs.YtdelhikejgoffaaGreat
end
section
set_option linter.unusedVariables false
set_option maxRecDepth 20000
set_option maxHeartbeats 1000000
namespace Go.Proofs.YtdelhikejgoffaaGreat
theorem cv0 (M : Heap) : CvR ([⟨none, cl [] 5⟩] ++ M) ⟨none, 0, none, 0, [], none, 0, none, 0⟩ pc0 :=
  ⟨RdM.none none (List.mem_cons_self ..), RdM.none none (List.mem_cons_self ..), rfl, (fun r hr => by cases hr), RdM.none none (List.mem_cons_self ..), RdM.none none (List.mem_cons_self ..), Nat.le_refl _, Nat.le_refl _, Nat.le_refl _⟩
theorem lc0 : LcI 0 pc0 := ⟨⟨⟨by decide, List.Pairwise.nil, (fun i hi => by cases hi), by decide⟩, Nat.le_refl _, Nat.le_refl _, Nat.le_refl _, by decide, (fun r hr => by cases hr), fun r hr => by cases hr⟩, Nat.le_refl _, fun _ => rfl⟩
structure CkW where
  i : Nat
  g : CG
  p : Nat
  u : PC
  m : CvV
  N : Heap
end Go.Proofs.YtdelhikejgoffaaGreat
end
section
set_option linter.unusedVariables false
set_option maxRecDepth 20000
set_option maxHeartbeats 8000000
namespace Go.Proofs.YtdelhikejgoffaaGreat
theorem callsL_ok (l : List Ac) (hl : l.length ≤ 9223372036854775807) {ol : Option Addr} {cl9 : Nat} (DH : Heap) (hdat : ∀ m ∈ l, RdM encY DH m.oa m.data) (hts : ∀ m ∈ l, m.t ≤ 18446744073709551615) (hlst : LstM DH ol l) : Spec Tryz.prog 4 [.slice ol l.length cl9] DH (fun r H' => r = .bool true ∧ H' = DH) := by
  refine Spec.of (E := [(0, .slice ol l.length cl9)]) Tryz.func4 rfl (by kernel_rfl) Tryz.ntmps4 rfl rfl (fun w => ?_)
  refine WC_seq ?_
  refine WC_region ?_
  refine WL_val rfl rfl rfl (R_assign rfl rfl) ?_
  refine WL_nil ?_
  refine WQ_code ?_
  refine WC_seq ?_
  refine WC_seq ?_
  refine WC_region ?_
  refine WL_val rfl rfl rfl (R_move rfl rfl) ?_
  refine WL_do rfl rfl rfl (D_call (few_ok DH l hl hlst) rfl rfl rfl rfl (pqD)) ?_
  rintro _ _ ⟨_, ⟨bq, rfl, hbq, rfl⟩, rfl⟩
  refine WL_val rfl rfl rfl (R_not rfl rfl) ?_
  refine WL_nil ?_
  refine WQ_code ?_
  refine WC_if rfl (fun c1 => ?_) (fun c1 => ?_)
  · refine WC_seq ?_
    refine WC_region ?_
    refine WL_do rfl rfl rfl (D_call (known_ok) rfl rfl rfl rfl (pqD)) ?_
    rintro _ _ ⟨_, ⟨rfl, rfl⟩, rfl⟩
    refine WL_val rfl rfl rfl (R_assign rfl rfl) ?_
    refine WL_nil ?_
    refine WQ_code ?_
    refine WC_ret ?_
    refine WQ_ret rfl rfl (.cons (.tmp rfl) .nil) rfl (by
        exact ⟨rfl, rfl⟩) (pqD)
  · have hbt : bq = true := by simpa using c1
    obtain ⟨hl40, hsz⟩ := hbq hbt
    refine WC_skip ?_
    refine WQ_code ?_
    refine WC_seq ?_
    refine WC_region ?_
    refine WL_val rfl rfl rfl (R_build rfl zv51 pl51 rfl rfl) ?_
    refine WL_do rfl rfl rfl (D_box (cs := [_, _, _, _, _, _, _, _, _]) rfl rfl rfl) ?_
    rintro _ _ ⟨b1, rfl, rfl⟩
    obtain ⟨gpv0, hpv0, hx1⟩ := c_new b1
    refine WL_turn hx1 plD ?_
    refine WL_val rfl rfl rfl (R_build rfl zv54 pl54 rfl rfl) ?_
    refine WL_do rfl rfl rfl (D_alloc rfl zv54) ?_
    rintro _ _ ⟨b2, rfl, rfl⟩
    refine WL_val rfl rfl rfl (R_assign rfl rfl) ?_
    refine WL_do0 rfl rfl (D_store (vs := [_, _, _, _, _, _, _, _]) rfl Tryz.sizeOf54 rfl rfl rfl rfl rfl (plD) (by exact Nat.le_of_ble_eq_true rfl)) ?_
    rintro _ _ rfl
    refine WL_nil ?_
    refine WQ_code ?_
    refine WC_seq ?_
    refine WC_seq ?_
    refine WC_region ?_
    refine WL_val rfl rfl rfl (R_assign rfl rfl) ?_
    refine WL_nil ?_
    refine WQ_code ?_
    refine WC_block ?_
    refine WC_none 5 ?_
    refine WC_loopF (G := CkW) [2, 3, 5, 6, 7, 8, 16, 17, 18, 19, 20, 21, 22, 23, 24, 25, 26, 27, 28, 29, 30, 31, 32, 33, 34, 35, 36, 37, 38, 39, 40, 41, 42, 43, 44, 45, 46, 47, 48] (fun y => y.i ≤ l.length ∧ CGd y.g y.p y.u ∧ LcI y.i y.u ∧ CvR (y.N ++ DH) y.m y.u) (fun y => [(5, .int .i64 (y.i : Int)), (3, ptrC y.p)]) (fun y => [⟨some b2, cl (cvc y.m y.u) 54⟩] ++ cH y.g ++ (y.N ++ DH)) (fun y => l.length - y.i) (⟨0, gpv0, b1, pc0, ⟨none, 0, none, 0, [], none, 0, none, 0⟩, [⟨none, cl [] 5⟩]⟩) (⟨Nat.zero_le _, hpv0, lc0, cv0 DH⟩) leZ (pqD) ?_
    rintro y ⟨hyi, hg, hI, hS⟩
    refine WC_seq ?_
    refine WC_seq ?_
    refine WC_region ?_
    refine WL_val rfl rfl rfl (R_move rfl rfl) ?_
    refine WL_val rfl rfl rfl (R_move rfl rfl) ?_
    refine WL_val rfl rfl rfl (R_len rfl Tryz.underlying22 rfl) ?_
    refine WL_val rfl rfl rfl (R_lss rfl rfl rfl) ?_
    refine WL_nil ?_
    refine WQ_code ?_
    refine WC_dec rfl (fun c2 => ?_) (fun c2 => ?_)
    · refine WC_skip ?_
      refine WQ_code ?_
      refine WC_seq ?_
      refine WC_block ?_
      refine WC_seq ?_
      refine WC_drawBR ([] ++ cH y.g) [(0, .q), (1, .q), (2, .q), (3, .q), (4, .q), (5, .q), (6, .n [11]), (7, .q), (8, .q), (9, .q), (10, .q), (11, .b []), (12, .q), (13, .n []), (14, .q)] followsMixed rfl rfl (by kernel_rfl) (pqD) ?_
      obtain ⟨mv, hmv⟩ := getE (T := l) (i := y.i) (by omega)
      obtain ⟨lb, lk, lcs, le, lfr, rfl, hlm, hlat⟩ := hlst (by omega)
      have hI2 := hI.actC (by omega) (hsz mv (List.mem_of_getElem? hmv)) (hts mv (List.mem_of_getElem? hmv))
      have hi9 : (idsK (y.u.actC mv).calls).length ≤ 1000000 := by have := hI2.n.J.len; unfold idsK; rw [List.length_map]; omega
      refine WB_val rfl rfl rfl rfl (R_move rfl rfl) ?_
      refine WB_val rfl rfl rfl rfl (R_loadA (vs := [_, _, _, _, _, _, _, _]) rfl ag54 rfl (mmD) rfl (atZ)) ?_
      refine WB_val rfl rfl rfl rfl (R_move rfl rfl) ?_
      refine WB_val rfl rfl rfl rfl (R_move rfl rfl) ?_
      refine WB_val rfl rfl rfl rfl (R_indexAddr rfl Tryz.underlying22 Tryz.sizeOf43 rfl rfl (by omega)) ?_
      refine WB_val rfl rfl rfl rfl (R_loadAG (vs := encAc mv) rfl ag43 rfl (pulls_mem (pqD : Pulls DH _ _) hlm) rfl (hlat y.i mv hmv)) ?_
      refine WB_do rfl rfl rfl rfl (.cons rfl rfl (B_alloc rfl zv54) .nil) (fun _ => D_call (client_ok hg hI (by omega) hS mv ((hdat mv (List.mem_of_getElem? hmv)).up y.N) (hsz mv (List.mem_of_getElem? hmv)) (hts mv (List.mem_of_getElem? hmv))) rfl rfl rfl rfl (pqD)) ?_
      rintro _ _ ⟨_, ⟨p', g', m2, N2, hg', hS2, rfl, rfl⟩, rfl⟩
      refine ⟨⟨_, pqD⟩, ?_⟩
      refine WB_val rfl rfl rfl rfl (R_move rfl rfl) ?_
      refine WB_val rfl rfl rfl rfl (R_extract rfl rfl rfl) ?_
      refine WB_val rfl rfl rfl rfl (R_extract rfl rfl rfl) ?_
      refine WB_val rfl rfl rfl rfl (R_extract rfl rfl rfl) ?_
      refine WB_birth rfl rfl rfl rfl .nil (B_alloc rfl zv54) (fun b3 => ?_)
      refine WB_val rfl rfl rfl rfl (R_assign rfl rfl) ?_
      refine WB_do0 rfl rfl rfl .nil (fun _ => D_store (vs := [_, _, _, _, _, _, _, _]) rfl Tryz.sizeOf54 rfl rfl rfl rfl rfl (plD) (by exact Nat.le_of_ble_eq_true rfl)) ?_
      rintro _ _ rfl
      refine ⟨⟨_, pqD⟩, ?_⟩
      refine WB_val rfl rfl rfl rfl (R_assign rfl rfl) ?_
      refine WB_nil ?_
      refine WQ_code ?_
      refine WC_seq ?_
      refine WC_seq ?_
      refine WC_draw _ [(0, true), (1, true), (2, true), (3, true), (4, true), (5, true), (6, true), (7, true), (9, true), (8, false), (10, false), (11, false), (12, true), (13, true)] followsMixed rfl rfl (by kernel_rfl) .all ?_
      refine WM_val rfl rfl rfl rfl (R_move rfl rfl) ?_
      refine WM_val rfl rfl rfl rfl (R_ptrEqNil rfl Tryz.underlying47 rfl) ?_
      refine WM_val rfl rfl rfl rfl (R_move rfl rfl) ?_
      refine WM_val rfl rfl rfl rfl (R_move rfl rfl) ?_
      refine WM_val rfl rfl rfl rfl (R_not rfl rfl) ?_
      refine WM_val rfl rfl rfl rfl (R_pickF rfl rfl rfl) ?_
      refine WM_val rfl rfl rfl rfl (R_move rfl rfl) ?_
      refine WM_val rfl rfl rfl rfl (R_move rfl rfl) ?_
      refine WM_val rfl rfl rfl rfl (R_loadA (vs := [_, _, _, _, _, _, _, _]) rfl ag54 rfl (mmD) rfl (atZ)) ?_
      refine WM_do rfl rfl rfl rfl (D_call (k_open hg' (hI2.pcb (by omega))) rfl rfl rfl rfl (pqD)) ?_
      rintro _ _ ⟨_, ⟨oq, cq, tq, rfl, ownq, rfl⟩, rfl⟩
      refine ⟨⟨_, pqD⟩, ?_⟩
      refine WM_do rfl rfl rfl rfl (D_call (wopn_ok (M := [⟨oq, cl (ivs (idsK (y.u.actC mv).calls) ++ tq) 3⟩] ++ (N2 ++ (y.N ++ DH))) (hS2.calls.up [⟨oq, cl (ivs (idsK (y.u.actC mv).calls) ++ tq) 3⟩]) (by have := hI2.n.J.len; omega) _ _ _ _ _ _ _ _ _ _ _ _ _) rfl rfl rfl rfl (pqD)) ?_
      rintro _ _ ⟨_, ⟨oj, cj, tj, rfl, ownj, rfl⟩, rfl⟩
      refine ⟨⟨_, pqD⟩, ?_⟩
      refine WM_do rfl rfl rfl rfl (D_call (ints_ok (M := [⟨oj, cl ((idsK (y.u.actC mv).calls).flatMap encI ++ tj) 3⟩] ++ ([⟨oq, cl (ivs (idsK (y.u.actC mv).calls) ++ tq) 3⟩] ++ (N2 ++ (y.N ++ DH)))) ((RdM.own (e := 3) (l := idsK (y.u.actC mv).calls) ownq _).up [⟨oj, cl ((idsK (y.u.actC mv).calls).flatMap encI ++ tj) 3⟩]) (RdM.own (e := 3) ownj _) hi9 hi9) rfl rfl rfl rfl (pqD)) ?_
      rintro _ _ ⟨_, ⟨rfl, rfl⟩, rfl⟩
      refine ⟨⟨_, pqD⟩, ?_⟩
      refine WM_set (s := 44) (v := .bool true) rfl (by exact congrArg Value.bool (decide_eq_true rfl)) ?_
      refine WM_val rfl rfl rfl rfl (R_not rfl rfl) ?_
      refine WM_val rfl rfl rfl rfl (R_pickF rfl rfl rfl) ?_
      refine WM_nil ?_
      refine WQ_code ?_
      refine WC_F rfl ?_
      refine WC_skip ?_
      refine WQ_code ?_
      refine WC_drawR [⟨some b2, _⟩] [(0, true), (1, true), (2, true), (3, false)] followsMixed rfl rfl (by kernel_rfl) (pqD) ?_
      refine WM_val rfl rfl rfl rfl (R_move rfl rfl) ?_
      refine WM_val rfl rfl rfl rfl (R_loadA (vs := [_, _, _, _, _, _, _, _]) rfl ag54 rfl (mmD) rfl (atZ)) ?_
      refine WM_val rfl rfl rfl rfl (R_assign rfl rfl) ?_
      refine WM_do0 rfl rfl rfl (D_store (vs := [_, _, _, _, _, _, _, _]) rfl Tryz.sizeOf54 rfl rfl rfl rfl rfl (plD) (by exact Nat.le_of_ble_eq_true rfl)) ?_
      rintro _ _ rfl
      refine ⟨⟨_, pqD⟩, ?_⟩
      refine WM_nil ?_
      refine WQ_code ?_
      refine WC_region ?_
      refine WL_val rfl rfl rfl (R_move rfl rfl) ?_
      refine WL_val rfl rfl rfl (R_add rfl rfl rfl (by omega)) ?_
      refine WL_val rfl rfl rfl (R_assign rfl rfl) ?_
      refine WL_nil ?_
      refine WQ_nextF (gg := y) (⟨y.i + 1, g', p', y.u.actC mv, m2, N2 ++ y.N⟩) (⟨by dsimp only; omega, hg', hI2, by rw [List.append_assoc]; exact hS2⟩) (by dsimp only; omega) leZ (psZ) rfl (pqD)
    · refine WC_exit ?_
      refine WQ_code ?_
      refine WC_seq ?_
      refine WC_region ?_
      refine WL_do rfl rfl rfl (D_call (known_ok) rfl rfl rfl rfl (pqD)) ?_
      rintro _ _ ⟨_, ⟨rfl, rfl⟩, rfl⟩
      refine WL_val rfl rfl rfl (R_assign rfl rfl) ?_
      refine WL_nil ?_
      refine WQ_code ?_
      refine WC_ret ?_
      refine WQ_ret rfl rfl (.cons (.tmp rfl) .nil) rfl (by
          exact ⟨rfl, rfl⟩) (pqD)
end Go.Proofs.YtdelhikejgoffaaGreat
end
section
set_option linter.unusedVariables false
set_option maxRecDepth 20000
namespace Go.Proofs.YtdelhikejgoffaaGreat
open Go.ChangeShapes Go.WideShapes Go.ChangeAt Go.RowKit Go.Joins Go.Deep
theorem decAcT {H : Type} {enc : TypeId × Value → H} {W : World} {sp : Nat → Bool} {held : Bool} (m : Nat) (cs : List Value) (y : DataW H × List MemPlace) (h : DataW.trod enc Tryz.prog W 0 sp held m 43 cs = some y) : ∃ x : Ac, cs = encAc x ∧ ∃ en, ((Arg x.oa en 1 encY x.data ∧ x.data.length ≤ maxLen) ∧ x.t ≤ 18446744073709551615) ∧ en.ok W := by
  obtain ⟨what, id, n, t, oa, en, l, c, rfl, _, _, _, wd, h1, h2, h3, _⟩ := decA m cs y h
  obtain ⟨tn, rfl, ht⟩ := wf_u64 wd
  exact ⟨⟨what, id, n, tn, oa, c, l⟩, rfl, en, ⟨⟨h1, h3⟩, by show tn ≤ _; omega⟩, h2⟩
end Go.Proofs.YtdelhikejgoffaaGreat
end
