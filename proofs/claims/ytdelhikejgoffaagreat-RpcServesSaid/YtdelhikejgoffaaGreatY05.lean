/-
  Chapter 45 (rpc), part RowActs: contracts of functions that the laws call, each for the heap it names.
-/
import Derived.Test.YtdelhikejgoffaaGreatY04
import Derived.Test.YtdelhikejgoffaaGreatRows
section
set_option linter.unusedVariables false
set_option maxRecDepth 20000
set_option maxHeartbeats 4000000
namespace Go.Proofs.YtdelhikejgoffaaGreat
theorem wrep_ok {M : Heap} {m : SvV} {u : PV} (h : SvR M m u) (hJ : PVJ u) (id code : Int) {body : Bs} {oa : Option Addr} {c : Nat} (hr : RdM encY M oa body) (hl : body.length ≤ 1000000) (hout : u.out.length ≤ 900000) (hJ2 : u.qu.length ≤ 900000) :
    Spec Tryz.prog 22 [svv m u, .int .i64 id, .int .i64 code, .slice oa body.length c] M (RqP M (u.reply id code body)) := by
  have hql := h.qlen
  have hJ1 := hJ.opn
  have hJ3 := hJ.last
  refine Spec.of (E := [(0, svv m u), (1, .int .i64 id), (2, .int .i64 code), (3, .slice oa body.length c)]) Tryz.func22 rfl (by kernel_rfl) Tryz.ntmps22 rfl rfl (fun w => ?_)
  refine WC_seq ?_
  refine WC_region ?_
  refine WL_do rfl rfl rfl (D_box (cs := [_, _, _, _, _, _]) rfl rfl rfl) ?_
  rintro _ _ ⟨b1, rfl, rfl⟩
  refine WL_do rfl rfl rfl (D_alloc rfl zv37) ?_
  rintro _ _ ⟨b2, rfl, rfl⟩
  refine WL_val rfl rfl rfl (R_assign rfl rfl) ?_
  refine WL_nil ?_
  refine WQ_code ?_
  refine WC_seq ?_
  refine WC_seq ?_
  refine WC_region ?_
  refine WL_val rfl rfl rfl (R_move rfl rfl) ?_
  refine WL_val rfl rfl rfl (R_lss rfl rfl rfl) ?_
  refine WL_val rfl rfl rfl (R_move rfl rfl) ?_
  refine WL_splitD (s := 12) rfl (fun c1 => ?_) (fun c1 => ?_)
  · have hq0 := c1
    refine WL_skip rfl rfl rfl ?_
    refine WL_skip rfl rfl rfl ?_
    refine WL_val rfl rfl rfl (R_pickT rfl rfl rfl) ?_
    refine WL_nil ?_
    refine WQ_code ?_
    refine WC_T rfl ?_
    refine WC_seq ?_
    refine WC_region ?_
    refine WL_val rfl rfl rfl (R_loadA (vs := [_, _, _, _, _, _]) rfl ag37 rfl (mmD) rfl (atZ)) ?_
    refine WL_do0 rfl rfl (D_store (vs := [_, _, _, _, _, _]) rfl Tryz.sizeOf37 rfl rfl rfl rfl rfl (plD) (by exact Nat.le_of_ble_eq_true rfl)) ?_
    rintro _ _ rfl
    refine WL_val rfl rfl rfl (R_assign rfl rfl) ?_
    refine WL_nil ?_
    refine WQ_code ?_
    refine WC_ret ?_
    refine WQ_ret rfl rfl (.cons (.cell (vs := [_, _, _, _, _, _]) rfl ag37 (mmD) rfl (atZ)) (.cons (.tmp rfl) .nil)) rfl (by
        have hP : u.reply id code body = (u, 2) := by unfold PV.reply; rw [if_pos (by omega)]
        rw [hP]
        exact ⟨[], m, h, rfl, rfl⟩) (pqD)
  · have hq0 := c1
    refine WL_val rfl rfl rfl (R_move rfl rfl) ?_
    refine WL_val rfl rfl rfl (R_gtr rfl rfl rfl) ?_
    refine WL_val rfl rfl rfl (R_pickF rfl rfl rfl) ?_
    refine WL_nil ?_
    refine WQ_code ?_
    refine WC_dec rfl (fun c2 => ?_) (fun c2 => ?_)
    · have hP : u.reply id code body = (u, 2) := by unfold PV.reply; rw [if_pos (by omega)]
      refine WC_seq ?_
      refine WC_region ?_
      refine WL_val rfl rfl rfl (R_loadA (vs := [_, _, _, _, _, _]) rfl ag37 rfl (mmD) rfl (atZ)) ?_
      refine WL_do0 rfl rfl (D_store (vs := [_, _, _, _, _, _]) rfl Tryz.sizeOf37 rfl rfl rfl rfl rfl (plD) (by exact Nat.le_of_ble_eq_true rfl)) ?_
      rintro _ _ rfl
      refine WL_val rfl rfl rfl (R_assign rfl rfl) ?_
      refine WL_nil ?_
      refine WQ_code ?_
      refine WC_ret ?_
      refine WQ_ret rfl rfl (.cons (.cell (vs := [_, _, _, _, _, _]) rfl ag37 (mmD) rfl (atZ)) (.cons (.tmp rfl) .nil)) rfl (by
          rw [hP]
          exact ⟨[], m, h, rfl, rfl⟩) (pqD)
    · have hcd : ¬ (code < 0 ∨ 999 < code) := by omega
      refine WC_skip ?_
      refine WQ_code ?_
      refine WC_seq ?_
      refine WC_seq ?_
      refine WC_region ?_
      refine WL_val rfl rfl rfl (R_fieldAddr rfl fa37_5 rfl) ?_
      refine WL_val rfl rfl rfl (R_load rfl sc3 rfl (mmD) rfl) ?_
      refine WL_val rfl rfl rfl (R_neq rfl rfl rfl) ?_
      refine WL_nil ?_
      refine WQ_code ?_
      refine WC_dec rfl (fun c3 => ?_) (fun c3 => ?_)
      · have hP : u.reply id code body = (u, 8) := by unfold PV.reply; rw [if_neg hcd, if_pos c3]
        refine WC_seq ?_
        refine WC_region ?_
        refine WL_val rfl rfl rfl (R_loadA (vs := [_, _, _, _, _, _]) rfl ag37 rfl (mmD) rfl (atZ)) ?_
        refine WL_do0 rfl rfl (D_store (vs := [_, _, _, _, _, _]) rfl Tryz.sizeOf37 rfl rfl rfl rfl rfl (plD) (by exact Nat.le_of_ble_eq_true rfl)) ?_
        rintro _ _ rfl
        refine WL_val rfl rfl rfl (R_assign rfl rfl) ?_
        refine WL_nil ?_
        refine WQ_code ?_
        refine WC_ret ?_
        refine WQ_ret rfl rfl (.cons (.cell (vs := [_, _, _, _, _, _]) rfl ag37 (mmD) rfl (atZ)) (.cons (.tmp rfl) .nil)) rfl (by
            rw [hP]
            exact ⟨[], m, h, rfl, rfl⟩) (pqD)
      · have hbr : ¬ u.br ≠ 0 := c3
        refine WC_skip ?_
        refine WQ_code ?_
        refine WC_seq ?_
        refine WC_seq ?_
        refine WC_region ?_
        refine WL_val rfl rfl rfl (R_move rfl rfl) ?_
        refine WL_val rfl rfl rfl (R_len rfl Tryz.underlying26 rfl) ?_
        refine WL_val rfl rfl rfl (R_gtr rfl rfl rfl) ?_
        refine WL_nil ?_
        refine WQ_code ?_
        refine WC_dec rfl (fun c4 => ?_) (fun c4 => ?_)
        · have hP : u.reply id code body = (u, 5) := by unfold PV.reply; rw [if_neg hcd, if_neg hbr, if_pos (by omega)]
          refine WC_seq ?_
          refine WC_region ?_
          refine WL_val rfl rfl rfl (R_loadA (vs := [_, _, _, _, _, _]) rfl ag37 rfl (mmD) rfl (atZ)) ?_
          refine WL_do0 rfl rfl (D_store (vs := [_, _, _, _, _, _]) rfl Tryz.sizeOf37 rfl rfl rfl rfl rfl (plD) (by exact Nat.le_of_ble_eq_true rfl)) ?_
          rintro _ _ rfl
          refine WL_val rfl rfl rfl (R_assign rfl rfl) ?_
          refine WL_nil ?_
          refine WQ_code ?_
          refine WC_ret ?_
          refine WQ_ret rfl rfl (.cons (.cell (vs := [_, _, _, _, _, _]) rfl ag37 (mmD) rfl (atZ)) (.cons (.tmp rfl) .nil)) rfl (by
              rw [hP]
              exact ⟨[], m, h, rfl, rfl⟩) (pqD)
        · have hbo : ¬ 1018 < body.length := by omega
          refine WC_skip ?_
          refine WQ_code ?_
          refine WC_seq ?_
          refine WC_seq ?_
          refine WC_region ?_
          refine WL_val rfl rfl rfl (R_fieldAddr rfl fa37_1 rfl) ?_
          refine WL_val rfl rfl rfl (R_load rfl sc32 rfl (mmD) rfl) ?_
          refine WL_val rfl rfl rfl (R_move rfl rfl) ?_
          refine WL_do rfl rfl rfl (D_call (whas_ok h.opn (by omega) id) rfl rfl rfl rfl (pqD)) ?_
          rintro _ _ ⟨_, ⟨rfl, rfl⟩, rfl⟩
          refine WL_val rfl rfl rfl (R_not rfl rfl) ?_
          refine WL_nil ?_
          refine WQ_code ?_
          refine WC_if rfl (fun c5 => ?_) (fun c5 => ?_)
          · have hno : u.opn.any (eqI id) = false := by simpa using c5
            have hP : u.reply id code body = (u, 9) := by unfold PV.reply; rw [if_neg hcd, if_neg hbr, if_neg hbo, if_pos hno]
            refine WC_seq ?_
            refine WC_region ?_
            refine WL_val rfl rfl rfl (R_loadA (vs := [_, _, _, _, _, _]) rfl ag37 rfl (mmD) rfl (atZ)) ?_
            refine WL_do0 rfl rfl (D_store (vs := [_, _, _, _, _, _]) rfl Tryz.sizeOf37 rfl rfl rfl rfl rfl (plD) (by exact Nat.le_of_ble_eq_true rfl)) ?_
            rintro _ _ rfl
            refine WL_val rfl rfl rfl (R_assign rfl rfl) ?_
            refine WL_nil ?_
            refine WQ_code ?_
            refine WC_ret ?_
            refine WQ_ret rfl rfl (.cons (.cell (vs := [_, _, _, _, _, _]) rfl ag37 (mmD) rfl (atZ)) (.cons (.tmp rfl) .nil)) rfl (by
                rw [hP]
                exact ⟨[], m, h, rfl, rfl⟩) (pqD)
          · have hyes : u.opn.any (eqI id) = true := by simpa using c5
            have hin : id ∈ u.opn := by obtain ⟨x, hx, e⟩ := List.any_eq_true.1 hyes; rw [show id = x from of_decide_eq_true e]; exact hx
            have hile := hJ.le id hin
            have hno : ¬ u.opn.any (eqI id) = false := by rw [hyes]; simp
            refine WC_skip ?_
            refine WQ_code ?_
            refine WC_seq ?_
            refine WC_seq ?_
            refine WC_region ?_
            refine WL_val rfl rfl rfl (R_fieldAddr rfl fa37_3 rfl) ?_
            refine WL_val rfl rfl rfl (R_load rfl sc26 rfl (mmD) rfl) ?_
            refine WL_val rfl rfl rfl (R_len rfl Tryz.underlying26 rfl) ?_
            refine WL_val rfl rfl rfl (R_gtr rfl rfl rfl) ?_
            refine WL_nil ?_
            refine WQ_code ?_
            refine WC_dec rfl (fun c6 => ?_) (fun c6 => ?_)
            · have hP : u.reply id code body = (u, 7) := by unfold PV.reply; rw [if_neg hcd, if_neg hbr, if_neg hbo, if_neg hno, if_pos (by omega)]
              refine WC_seq ?_
              refine WC_region ?_
              refine WL_val rfl rfl rfl (R_loadA (vs := [_, _, _, _, _, _]) rfl ag37 rfl (mmD) rfl (atZ)) ?_
              refine WL_do0 rfl rfl (D_store (vs := [_, _, _, _, _, _]) rfl Tryz.sizeOf37 rfl rfl rfl rfl rfl (plD) (by exact Nat.le_of_ble_eq_true rfl)) ?_
              rintro _ _ rfl
              refine WL_val rfl rfl rfl (R_assign rfl rfl) ?_
              refine WL_nil ?_
              refine WQ_code ?_
              refine WC_ret ?_
              refine WQ_ret rfl rfl (.cons (.cell (vs := [_, _, _, _, _, _]) rfl ag37 (mmD) rfl (atZ)) (.cons (.tmp rfl) .nil)) rfl (by
                  rw [hP]
                  exact ⟨[], m, h, rfl, rfl⟩) (pqD)
            · have hP : u.reply id code body = ({ u.close id with out := u.out ++ encF 17 (bigB id.toNat 4 ++ (bigB code.toNat 2 ++ body)) }, 0) := by unfold PV.reply; rw [if_neg hcd, if_neg hbr, if_neg hbo, if_neg hno, if_neg (by omega)]
              refine WC_skip ?_
              refine WQ_code ?_
              refine WC_seq ?_
              refine WC_region ?_
              obtain ⟨idn, hidn⟩ : ∃ i : Nat, id = i := ⟨id.toNat, by omega⟩
              obtain ⟨ent, hm, hrb⟩ := hr.b
              have hb4 := bigB_len id.toNat 4
              have hb2 := bigB_len code.toNat 2
              have hbl : (bigB id.toNat 4 ++ (bigB code.toNat 2 ++ body)).length = 6 + body.length := by rw [List.length_append, List.length_append, hb4, hb2]; omega
              refine WL_val rfl rfl rfl (R_loadA (vs := [_, _, _, _, _, _]) rfl ag37 rfl (mmD) rfl (atZ)) ?_
              refine WL_val rfl rfl rfl (R_move rfl rfl) ?_
              refine WL_do rfl rfl rfl (D_call (wwo_ok h.opn h.qu (by omega) (by omega) _ _ _ _ _ _ _ _ _) rfl rfl rfl rfl (pqD)) ?_
              rintro _ _ ⟨_, ⟨o1, k1, t1, o2, k2, t2, rfl, own1, own2, rfl⟩, rfl⟩
              refine WL_do0 rfl rfl (D_store (vs := [_, _, _, _, _, _]) rfl Tryz.sizeOf37 rfl rfl rfl rfl rfl (plD) (by exact Nat.le_of_ble_eq_true rfl)) ?_
              rintro _ _ rfl
              refine WL_nil ?_
              refine WQ_code ?_
              refine WC_seq ?_
              refine WC_drawY (⟨some b1, _⟩ :: []) [(b1, 3, .slice m.a3 u.out.length m.c3)] [13] [(0, false), (1, true)] [(2, true), (3, true), (5, true), (6, true), (9, true), (4, false), (7, false), (8, false), (10, false), (11, false), (12, true), (13, false)] followsMixed rfl rfl (by kernel_rfl) (pqD) (.cons (mmD) rfl .nil) ?_
              refine WYE_val rfl rfl rfl rfl (R_fieldAddr rfl fa37_3 rfl) ?_
              refine WYE_early rfl rfl rfl rfl rfl sc26 rfl (by repeat (first | exact List.Mem.head _ | refine List.Mem.tail _ ?_)) ?_
              refine WYE_rest ?_
              refine WY_val rfl rfl rfl rfl (R_move rfl rfl) ?_
              refine WY_val rfl rfl rfl rfl (R_conv (r := ((id.toNat : Nat) : Int)) rfl Tryz.underlying3 Tryz.underlying40 rfl (by rw [w64 ⟨by omega, by omega⟩]; omega)) ?_
              refine WY_val rfl rfl rfl rfl (R_move rfl rfl) ?_
              refine WY_val rfl rfl rfl rfl (R_conv (r := ((code.toNat : Nat) : Int)) rfl Tryz.underlying27 Tryz.underlying40 rfl (by rw [w64 ⟨by omega, by omega⟩]; omega)) ?_
              refine WY_val rfl rfl rfl rfl (R_move rfl rfl) ?_
              refine WY_do rfl rfl rfl rfl (D_call (wbig_ok id.toNat 4 (by omega) (by decide)) rfl rfl rfl rfl (pqD)) ?_
              rintro _ _ ⟨_, ⟨oB, cB, tB, rfl, ownB, rfl⟩, rfl⟩
              refine ⟨⟨_, pqD⟩, .inr (.cons (mmD) rfl .nil), ?_⟩
              refine WY_do rfl rfl rfl rfl (D_call (wbig_ok code.toNat 2 (by omega) (by decide)) rfl rfl rfl rfl (pqD)) ?_
              rintro _ _ ⟨_, ⟨oC, cC, tC, rfl, ownC, rfl⟩, rfl⟩
              refine ⟨⟨_, pqD⟩, .inr (.cons (mmD) rfl .nil), ?_⟩
              refine WY_do rfl rfl rfl rfl (D_appendBO rfl si26 rfl ownB plD rfl (RdB.own ownC) mmD (by omega) (by omega)) ?_
              rintro _ _ ⟨o7, c7, tl7, rfl, own7, rfl⟩
              refine ⟨⟨_, pqD⟩, .inr (.cons (mmD) rfl .nil), ?_⟩
              refine WY_do rfl rfl rfl rfl (D_appendBO rfl si26 rfl own7 plD rfl hrb (pulls_mem (pqD : Pulls M _ _) hm) (by omega) (by omega)) ?_
              rintro _ _ ⟨o9, c9, tl9, rfl, own9, rfl⟩
              refine ⟨⟨_, pqD⟩, .inr (.cons (mmD) rfl .nil), ?_⟩
              have e49 : bvs (bigB id.toNat 4) ++ bvs (bigB code.toNat 2) ++ bvs body = bvs (bigB id.toNat 4 ++ (bigB code.toNat 2 ++ body)) := by rw [bvs_app, bvs_app, List.append_assoc]
              rw [e49, show (bigB id.toNat 4).length + (bigB code.toNat 2).length + body.length = (bigB id.toNat 4 ++ (bigB code.toNat 2 ++ body)).length from by rw [hbl, hb4, hb2]] at own9 ⊢
              refine WY_do rfl rfl rfl rfl (D_call (wsent_ok 17 (body := (bigB id.toNat 4 ++ (bigB code.toNat 2 ++ body))) (M := [⟨o9, cl (bvs (bigB id.toNat 4 ++ (bigB code.toNat 2 ++ body)) ++ tl9) 5⟩] ++ M) (h.out.up _) (RdM.own own9 M) (by omega) (by rw [hbl]; omega)) rfl rfl rfl rfl (pqD)) ?_
              rintro _ _ ⟨_, ⟨oS, cS, tS, rfl, ownS, rfl⟩, rfl⟩
              refine ⟨⟨_, pqD⟩, .inr (.cons (mmD) rfl .nil), ?_⟩
              refine WY_val rfl rfl rfl rfl (R_fieldAddr rfl fa37_3 rfl) ?_
              refine WY_do0 rfl rfl rfl (D_store (vs := [_]) rfl Tryz.sizeOf26 rfl rfl rfl rfl rfl (plD) (by exact Nat.le_of_ble_eq_true rfl)) ?_
              rintro _ _ rfl
              refine ⟨⟨_, pqD⟩, .inl rfl, ?_⟩
              refine WY_nil ?_
              refine WQ_code ?_
              refine WC_seq ?_
              refine WC_region ?_
              refine WL_val rfl rfl rfl (R_loadA (vs := [_, _, _, _, _, _]) rfl ag37 rfl (mmD) rfl (atZ)) ?_
              refine WL_do0 rfl rfl (D_store (vs := [_, _, _, _, _, _]) rfl Tryz.sizeOf37 rfl rfl rfl rfl rfl (plD) (by exact Nat.le_of_ble_eq_true rfl)) ?_
              rintro _ _ rfl
              refine WL_val rfl rfl rfl (R_assign rfl rfl) ?_
              refine WL_nil ?_
              refine WQ_code ?_
              refine WC_ret ?_
              refine WQ_ret rfl rfl (.cons (.cell (vs := [_, _, _, _, _, _]) rfl ag37 (mmD) rfl (atZ)) (.cons (.tmp rfl) .nil)) rfl (by
                  rw [hP]
                  exact ⟨[_, _, _], _, SvR.outed (e := 5) (SvR.closed (e1 := 3) (e2 := 67) h hJ id own1 own2) ownS, by rw [hJ.wo]; rfl, rfl⟩) (pqD)
end Go.Proofs.YtdelhikejgoffaaGreat
end
section
set_option linter.unusedVariables false
set_option maxRecDepth 20000
set_option maxHeartbeats 1000000
namespace Go.Proofs.YtdelhikejgoffaaGreat
def dropA (oa : Option Addr) (c n sz : Nat) : Option Addr := oa.map fun a => if c = n then a else a.add (n * sz)
theorem R_sliceFromG {X : Ctx} {E : Env} {H : Heap} {o : Oper} {t e : TypeId} {x y : Operand} {oa : Option Addr} {n c sz m : Nat} {kk : IntKind} (ho : o.op = .slice t x (some y) none none) (hu : X.P.underlying t = some (.slice e)) (hs : ∀ w, (sizeOf e).run X.P w = .ok sz w)
    (hx : ev E x = some (.slice oa n c)) (hy : ev E y = some (.int kk (m : Int))) (hm : m ≤ n) : Runs X o E H (.slice (dropA oa c m sz) (n - m) (c - m)) :=
  ⟨(by rw [ho]; intro c e; cases e), fun a w ha _ => by
    cases oa with
    | none =>
      simp [execOp, ho, ha.eval hx, ha.eval hy, Instr.sliceAt, Instr.slice, Instr.sliceBounds, Instr.sliceBound, asIntOf, run_underlying hu, hs w, hm, dropA]
    | some a =>
      simp [execOp, ho, ha.eval hx, ha.eval hy, Instr.sliceAt, Instr.slice, Instr.sliceBounds, Instr.sliceBound, asIntOf, run_underlying hu, hs w, hm, dropA]
      by_cases e : c = m <;> simp [e]⟩
theorem RdM.dropG {α : Type} {enc : α → List Value} {sz : Nat} {M : Heap} {oa : Option Addr} {c : Nat} {l : List α} (h : RdM enc M oa l) (hk : ∀ x, (enc x).length = sz) (hc : l.length ≤ c) (n : Nat) : RdM enc M (dropA oa c n sz) (l.drop n) := by
  obtain ⟨ent, hm, hr⟩ := h
  refine ⟨ent, hm, fun hl => ?_⟩
  rw [List.length_drop] at hl
  obtain ⟨b, k, cs, e, fr, h1, h2, h3⟩ := hr (by omega)
  subst h1
  refine ⟨b, k + n * sz, cs, e, fr, ?_, h2, ?_⟩
  · unfold dropA; rw [Option.map_some, if_neg (by omega)]; simp [Addr.add]
  · rw [← List.take_append_drop n l, List.flatMap_append] at h3
    have h4 := h3.appR
    rwa [fm_len hk, List.length_take, Nat.min_eq_left (by omega)] at h4
section
variable {M : Heap} {l : Bs} {oa : Option Addr} {c : Nat} (hr : RdM encY M oa l)
include hr
theorem wfst_wait (hl : l.length ≤ 1000000) (hc : l.length ≤ c) (h : nxt l = .wait) : Spec Tryz.prog 56 [.slice oa l.length c] M (fun r H' => r = .tuple #[.agg #[.int .u8 0, .slice none 0 0], .int .i64 0, .int .i64 0] ∧ M = H') := by
  have h9 := wfst_ok hr hl hc
  rw [h] at h9
  exact h9.mono fun _ _ q => ⟨q.1, q.2.symm⟩
theorem wfst_bad (hl : l.length ≤ 1000000) (hc : l.length ≤ c) {e : Int} (h : nxt l = .bad e) : Spec Tryz.prog 56 [.slice oa l.length c] M (fun r H' => r = .tuple #[.agg #[.int .u8 0, .slice none 0 0], .int .i64 0, .int .i64 e] ∧ M = H') := by
  have h9 := wfst_ok hr hl hc
  rw [h] at h9
  exact h9.mono fun _ _ q => ⟨q.1, q.2.symm⟩
theorem wfst_got (hl : l.length ≤ 1000000) (hc : l.length ≤ c) {k : UInt8} {body : Bs} {n : Nat} (h : nxt l = .got k body n) : Spec Tryz.prog 56 [.slice oa l.length c] M (fun r H' => ∃ o c2 tl, r = .tuple #[.agg #[.int .u8 (k.toNat : Int), slV o body.length c2], .int .i64 (n : Int), .int .i64 0] ∧ H' = [⟨o, cl (bvs body ++ tl) 5⟩] ++ M ∧ Own o body.length c2 1 (bvs body) tl) := by
  have h9 := wfst_ok hr hl hc
  rw [h] at h9
  exact h9
end
theorem step_bs (u : PV) (k : UInt8) (body x : Bs) : ({ u with bs := x }).step k body = ({ (u.step k body).1 with bs := x }, (u.step k body).2) := by
  unfold PV.step
  repeat' split
  all_goals first | rfl | (unfold PV.close; repeat' split) <;> rfl
theorem close_br (u : PV) (id : Int) : (u.close id).br = u.br ∧ (u.close id).bs = u.bs := by unfold PV.close; split <;> exact ⟨rfl, rfl⟩
theorem step_br (u : PV) (k : UInt8) (body : Bs) : (u.step k body).1.br = u.br ∧ (u.step k body).1.bs = u.bs := by
  unfold PV.step
  repeat' split
  all_goals first | exact ⟨rfl, rfl⟩ | exact close_br _ _
def PV.fin (u : PV) (q : PV × Bs × Int × Int) : PV × Int := ({ q.1 with bs := q.2.1, rb := q.2.2.1, br := q.2.2.2 }, q.2.2.2)
theorem recv_fin {u : PV} {b : Bs} (h1 : u.br = 0) (h2 : u.bs.length + b.length ≤ 65536) : u.recv b = u.fin (rcvN PV.step (u.bs.length + b.length + 1) { u with bs := [] } (u.bs ++ b)) := by
  unfold PV.recv PV.fin
  rw [if_neg (fun e => e h1), if_neg (by omega)]
theorem SvR.reb {M : Heap} {m : SvV} {u u' : PV} (h : SvR M m u) (h1 : u'.opn = u.opn) (h2 : u'.qu = u.qu) (h3 : u'.out = u.out) (h4 : u'.bs = u.bs) : SvR M m u' :=
  ⟨h1 ▸ h.opn, h.qu, h2 ▸ h.qv, h.qb, h3 ▸ h.out, h4 ▸ h.bs, h.qc, h3 ▸ h.oc, h4 ▸ h.bc⟩
theorem SvR.ins {M : Heap} {m : SvV} {u : PV} (h : SvR M m u) {l : Bs} {a4 : Option Addr} {c4 : Nat} (hr : RdM encY M a4 l) (hc : l.length ≤ c4) : SvR M { m with a4 := a4, c4 := c4 } { u with bs := l } :=
  ⟨h.opn, h.qu, h.qv, h.qb, h.out, hr, h.qc, h.oc, hc⟩
theorem req_br (u : PV) (k : UInt8) (body : Bs) : (u.req k body).1.br = u.br ∧ (u.req k body).1.bs = u.bs := by unfold PV.req; split; exact ⟨rfl, rfl⟩; exact step_br ..
theorem PVJ.req {u : PV} (h : PVJ u) (k : UInt8) (body : Bs) : PVJ (u.req k body).1 := by unfold PV.req; split; exact h; exact h.step ..
theorem PVJ.re {u u' : PV} (h : PVJ u) (h1 : u'.opn = u.opn) (h2 : u'.qu = u.qu) (h3 : u'.last = u.last) : PVJ u' := ⟨h1 ▸ h.opn, h1 ▸ h.nd, h1 ▸ h3 ▸ h.le, h1 ▸ h2 ▸ h.qo, h3 ▸ h.last⟩
theorem PVI.req {n : Nat} {u : PV} {k : UInt8} {body : Bs} (h : PVI (n + (body.length + 6)) u) : PVI n (u.req k body).1 := by unfold PV.req; split; exact h.mono; exact h.step
theorem PVI.re {n : Nat} {u u' : PV} (h : PVI n u) (h1 : u'.opn = u.opn) (h2 : u'.qu = u.qu) (h3 : u'.last = u.last) (h4 : u'.out = u.out) : PVI n u' := ⟨h1 ▸ h.opn, h2 ▸ h.qu, h3 ▸ h.last, h4 ▸ h.out, h1 ▸ h.ids⟩
theorem rcv_got {u : PV} {n mm : Nat} {k : UInt8} {body : Bs} (hN : nxt u.bs = .got k body mm) : rcvN PV.step (n + 1) { u with bs := [] } u.bs =
    if (({ u with bs := u.bs.drop mm } : PV).req k body).2 = 0 then rcvN PV.step n { (({ u with bs := u.bs.drop mm } : PV).req k body).1 with bs := [] } (u.bs.drop mm)
    else ({ (({ u with bs := u.bs.drop mm } : PV).req k body).1 with bs := [] }, u.bs.drop mm, 0, (({ u with bs := u.bs.drop mm } : PV).req k body).2) := by
  by_cases h4 : body.length < 4
  · rw [rcv_short hN h4, rq_short h4]; rfl
  · have e1 : ({ u with bs := u.bs.drop mm } : PV).req k body = ({ (u.step k body).1 with bs := u.bs.drop mm }, (u.step k body).2) := by unfold PV.req; rw [if_neg h4, step_bs]
    have e2 := step_bs u k body []
    rw [e1]
    by_cases h5 : (u.step k body).2 = 0
    · rw [rcv_ok hN (by omega) (by rw [e2]; exact h5), if_pos h5, e2]
    · rw [rcv_no hN (by omega) (by rw [e2]; exact h5), if_neg h5, e2]
abbrev svc (m : SvV) (u : PV) (br : Int) : List Value := [.int .i64 (u.last : Int), .slice m.a1 u.opn.length m.c1, .slice m.a2 m.Q.length m.c2, .slice m.a3 u.out.length m.c3, .slice m.a4 u.bs.length m.c4, .int .i64 br]
structure SrW where
  u : PV
  n : Nat
  m : SvV
  N : Heap
end Go.Proofs.YtdelhikejgoffaaGreat
end
section
set_option linter.unusedVariables false
set_option maxRecDepth 20000
set_option maxHeartbeats 4000000
namespace Go.Proofs.YtdelhikejgoffaaGreat
theorem wsrcv_ok (hfull : WFullOk) {M : Heap} {m : SvV} {u : PV} (h : SvR M m u) (hJ : PVJ u) {l : Bs} (hI0 : PVI (u.bs.length + l.length) u) {oa : Option Addr} {c : Nat} (hr : RdM encY M oa l) (hl : l.length ≤ 1000000) (hbs : u.bs.length ≤ 1000000) :
    Spec Tryz.prog 23 [svv m u, .slice oa l.length c] M (RqP M (u.recv l)) := by
  obtain ⟨R, hRd⟩ : ∃ R, R = rcvN PV.step (u.bs.length + l.length + 1) { u with bs := [] } (u.bs ++ l) := ⟨_, rfl⟩
  refine Spec.of (E := [(0, svv m u), (1, .slice oa l.length c)]) Tryz.func23 rfl (by kernel_rfl) Tryz.ntmps23 rfl rfl (fun w => ?_)
  refine WC_seq ?_
  refine WC_region ?_
  refine WL_do rfl rfl rfl (D_box (cs := [_, _, _, _, _, _]) rfl rfl rfl) ?_
  rintro _ _ ⟨b1, rfl, rfl⟩
  refine WL_do rfl rfl rfl (D_alloc rfl zv37) ?_
  rintro _ _ ⟨b2, rfl, rfl⟩
  refine WL_val rfl rfl rfl (R_assign rfl rfl) ?_
  refine WL_nil ?_
  refine WQ_code ?_
  refine WC_seq ?_
  refine WC_seq ?_
  refine WC_region ?_
  refine WL_val rfl rfl rfl (R_fieldAddr rfl fa37_5 rfl) ?_
  refine WL_val rfl rfl rfl (R_load rfl sc3 rfl (mmD) rfl) ?_
  refine WL_val rfl rfl rfl (R_neq rfl rfl rfl) ?_
  refine WL_nil ?_
  refine WQ_code ?_
  refine WC_dec rfl (fun c1 => ?_) (fun c1 => ?_)
  · have hP : u.recv l = (u, 8) := by unfold PV.recv; rw [if_pos c1]
    refine WC_seq ?_
    refine WC_region ?_
    refine WL_val rfl rfl rfl (R_loadA (vs := [_, _, _, _, _, _]) rfl ag37 rfl (mmD) rfl (atZ)) ?_
    refine WL_do0 rfl rfl (D_store (vs := [_, _, _, _, _, _]) rfl Tryz.sizeOf37 rfl rfl rfl rfl rfl (plD) (by exact Nat.le_of_ble_eq_true rfl)) ?_
    rintro _ _ rfl
    refine WL_val rfl rfl rfl (R_assign rfl rfl) ?_
    refine WL_nil ?_
    refine WQ_code ?_
    refine WC_ret ?_
    refine WQ_ret rfl rfl (.cons (.cell (vs := [_, _, _, _, _, _]) rfl ag37 (mmD) rfl (atZ)) (.cons (.tmp rfl) .nil)) rfl (by
        rw [hP]
        exact ⟨[], m, h, rfl, rfl⟩) (pqD)
  · have hbr : u.br = 0 := Decidable.byContradiction c1
    refine WC_skip ?_
    refine WQ_code ?_
    refine WC_seq ?_
    refine WC_seq ?_
    refine WC_region ?_
    refine WL_val rfl rfl rfl (R_fieldAddr rfl fa37_4 rfl) ?_
    refine WL_val rfl rfl rfl (R_load rfl sc26 rfl (mmD) rfl) ?_
    refine WL_val rfl rfl rfl (R_len rfl Tryz.underlying26 rfl) ?_
    refine WL_val rfl rfl rfl (R_move rfl rfl) ?_
    refine WL_val rfl rfl rfl (R_len rfl Tryz.underlying26 rfl) ?_
    refine WL_val rfl rfl rfl (R_add rfl rfl rfl (by omega)) ?_
    refine WL_val rfl rfl rfl (R_gtr rfl rfl rfl) ?_
    refine WL_nil ?_
    refine WQ_code ?_
    refine WC_dec rfl (fun c2 => ?_) (fun c2 => ?_)
    · have hP : u.recv l = (u, 7) := by unfold PV.recv; rw [if_neg (fun e => e hbr), if_pos (by omega)]
      refine WC_seq ?_
      refine WC_region ?_
      refine WL_val rfl rfl rfl (R_loadA (vs := [_, _, _, _, _, _]) rfl ag37 rfl (mmD) rfl (atZ)) ?_
      refine WL_do0 rfl rfl (D_store (vs := [_, _, _, _, _, _]) rfl Tryz.sizeOf37 rfl rfl rfl rfl rfl (plD) (by exact Nat.le_of_ble_eq_true rfl)) ?_
      rintro _ _ rfl
      refine WL_val rfl rfl rfl (R_assign rfl rfl) ?_
      refine WL_nil ?_
      refine WQ_code ?_
      refine WC_ret ?_
      refine WQ_ret rfl rfl (.cons (.cell (vs := [_, _, _, _, _, _]) rfl ag37 (mmD) rfl (atZ)) (.cons (.tmp rfl) .nil)) rfl (by
          rw [hP]
          exact ⟨[], m, h, rfl, rfl⟩) (pqD)
    · have hfit : u.bs.length + l.length ≤ 65536 := by omega
      have hP : u.recv l = u.fin R := by rw [hRd]; exact recv_fin hbr hfit
      refine WC_skip ?_
      refine WQ_code ?_
      refine WC_seq ?_
      refine WC_region ?_
      obtain ⟨ent, hm, hrb⟩ := hr.b
      rw [hbr]
      refine WL_val rfl rfl rfl (R_fieldAddr rfl fa37_4 rfl) ?_
      refine WL_val rfl rfl rfl (R_load rfl sc26 rfl (mmD) rfl) ?_
      refine WL_do rfl rfl rfl (D_appendIn rfl si26 rfl rfl (RdM.inn h.bs pqD) (by rw [Nat.mul_one]; exact bvs_len u.bs) (by omega) (by omega)) ?_
      rintro _ _ ⟨o7, c7, tl7, rfl, own7, rfl⟩
      refine WL_val rfl rfl rfl (R_move rfl rfl) ?_
      refine WL_do rfl rfl rfl (D_appendBO rfl si26 rfl own7 plD rfl hrb (pulls_mem (pqD : Pulls M _ _) hm) (by omega) (by omega)) ?_
      rintro _ _ ⟨o8, c8, tl8, rfl, own8, rfl⟩
      have e25 : bvs u.bs ++ bvs l = bvs (u.bs ++ l) := (bvs_app _ _).symm
      have own8 : Own o8 (u.bs ++ l).length c8 1 (bvs (u.bs ++ l)) tl8 := by rw [← e25, List.length_append]; exact own8
      refine WL_set (s := 25) (v := slV o8 (u.bs ++ l).length c8) rfl (by rw [List.length_append]) ?_
      refine WLshp (A := [⟨o8, cl (bvs u.bs ++ bvs l ++ tl8) 5⟩]) (A' := [⟨o8, cl (bvs (u.bs ++ l) ++ tl8) 5⟩]) pqD (by rw [e25]) ?_
      refine WL_val rfl rfl rfl (R_fieldAddr rfl fa37_4 rfl) ?_
      refine WL_do0 rfl rfl (D_store (vs := [_]) rfl Tryz.sizeOf26 rfl rfl rfl rfl rfl (plD) (by exact Nat.le_of_ble_eq_true rfl)) ?_
      rintro _ _ rfl
      refine WL_nil ?_
      refine WQ_code ?_
      refine WC_block ?_
      refine WC_loopF (G := SrW) [5, 6, 7, 8, 27, 28, 29, 30, 31, 32, 33, 34, 35, 36, 37, 38, 39, 40, 41, 42, 43, 44, 45, 46, 47, 48, 49, 50, 51, 52, 53, 54, 55, 56, 57, 58, 59] (fun y => SvR (y.N ++ M) y.m y.u ∧ PVJ y.u ∧ y.u.br = 0 ∧ rcvN PV.step (y.n + 1) { y.u with bs := [] } y.u.bs = R ∧ y.u.bs.length ≤ y.n ∧ y.u.bs.length ≤ 65536 ∧ PVI y.u.bs.length y.u) (fun y => []) (fun y => [⟨some b1, cl (svc y.m y.u 0) 37⟩] ++ (y.N ++ M)) (fun y => y.u.bs.length) (⟨{ u with bs := u.bs ++ l }, u.bs.length + l.length, { m with a4 := o8.map fun b => ⟨b, 0, none⟩, c4 := c8 }, [⟨o8, cl (bvs (u.bs ++ l) ++ tl8) 5⟩]⟩) (⟨(h.up _).ins (RdM.own own8 M) own8.le, hJ.re rfl rfl rfl, hbr, hRd.symm, by simp, by simp; omega, by dsimp only; rw [List.length_append]; exact hI0.re rfl rfl rfl rfl⟩) leZ (pqD) ?_
      rintro y ⟨hS, hJy, hb0, hR, hn, hbl, hI⟩
      refine WC_block ?_
      refine WC_seq ?_
      refine WC_region ?_
      refine WL_val rfl rfl rfl (R_fieldAddr rfl fa37_4 rfl) ?_
      refine WL_val rfl rfl rfl (R_load rfl sc26 rfl (mmD) rfl) ?_
      rcases hN : nxt y.u.bs with _ | e | ⟨kk, body, mm⟩
      · refine WL_do rfl rfl rfl (D_call (wfst_wait hS.bs (by omega) hS.bc hN) rfl rfl rfl rfl (pqD)) ?_
        rintro _ _ ⟨_, ⟨rfl, rfl⟩, rfl⟩
        refine WL_val rfl rfl rfl (R_move rfl rfl) ?_
        refine WL_val rfl rfl rfl (R_extract rfl rfl rfl) ?_
        refine WL_val rfl rfl rfl (R_extract rfl rfl rfl) ?_
        refine WL_val rfl rfl rfl (R_extract rfl rfl rfl) ?_
        refine WL_do rfl rfl rfl (D_alloc rfl zv112) ?_
        rintro _ _ ⟨b3, rfl, rfl⟩
        refine WL_do0 rfl rfl (D_store (vs := [_, _]) rfl Tryz.sizeOf112 rfl rfl rfl rfl rfl (plD) (by exact Nat.le_of_ble_eq_true rfl)) ?_
        rintro _ _ rfl
        refine WL_val rfl rfl rfl (R_assign rfl rfl) ?_
        refine WL_val rfl rfl rfl (R_assign rfl rfl) ?_
        refine WL_nil ?_
        refine WQ_code ?_
        refine WC_seq ?_
        refine WC_seq ?_
        refine WC_region ?_
        refine WL_val rfl rfl rfl (R_move rfl rfl) ?_
        refine WL_val rfl rfl rfl (R_eql rfl rfl rfl) ?_
        refine WL_set (s := 35) (v := .bool true) rfl (by rfl) ?_
        refine WL_val rfl rfl rfl (R_move rfl rfl) ?_
        refine WL_val rfl rfl rfl (R_move rfl rfl) ?_
        refine WL_val rfl rfl rfl (R_eql rfl rfl rfl) ?_
        refine WL_set (s := 38) (v := .bool true) rfl (by rfl) ?_
        refine WL_val rfl rfl rfl (R_pickT rfl rfl rfl) ?_
        refine WL_nil ?_
        refine WQ_code ?_
        refine WC_T rfl ?_
        refine WC_seq ?_
        refine WC_region ?_
        refine WL_val rfl rfl rfl (R_loadA (vs := [_, _, _, _, _, _]) rfl ag37 rfl (mmD) rfl (atZ)) ?_
        refine WL_do0 rfl rfl (D_store (vs := [_, _, _, _, _, _]) rfl Tryz.sizeOf37 rfl rfl rfl rfl rfl (plD) (by exact Nat.le_of_ble_eq_true rfl)) ?_
        rintro _ _ rfl
        refine WL_val rfl rfl rfl (R_assign rfl rfl) ?_
        refine WL_nil ?_
        refine WQ_code ?_
        refine WC_ret ?_
        refine WQ_ret rfl rfl (.cons (.cell (vs := [_, _, _, _, _, _]) rfl ag37 (mmD) rfl (atZ)) (.cons (.tmp rfl) .nil)) rfl (by
            have hR9 : R = ({ y.u with bs := [] }, y.u.bs, 0, 0) := by rw [← hR, rcv_wait hN]
            rw [hP, hR9]
            exact ⟨y.N, y.m, hS.reb rfl rfl rfl rfl, rfl, rfl⟩) (pqD)
      · refine WL_do rfl rfl rfl (D_call (wfst_bad hS.bs (by omega) hS.bc hN) rfl rfl rfl rfl (pqD)) ?_
        rintro _ _ ⟨_, ⟨rfl, rfl⟩, rfl⟩
        refine WL_val rfl rfl rfl (R_move rfl rfl) ?_
        refine WL_val rfl rfl rfl (R_extract rfl rfl rfl) ?_
        refine WL_val rfl rfl rfl (R_extract rfl rfl rfl) ?_
        refine WL_val rfl rfl rfl (R_extract rfl rfl rfl) ?_
        refine WL_do rfl rfl rfl (D_alloc rfl zv112) ?_
        rintro _ _ ⟨b4, rfl, rfl⟩
        refine WL_do0 rfl rfl (D_store (vs := [_, _]) rfl Tryz.sizeOf112 rfl rfl rfl rfl rfl (plD) (by exact Nat.le_of_ble_eq_true rfl)) ?_
        rintro _ _ rfl
        refine WL_val rfl rfl rfl (R_assign rfl rfl) ?_
        refine WL_val rfl rfl rfl (R_assign rfl rfl) ?_
        refine WL_nil ?_
        refine WQ_code ?_
        refine WC_seq ?_
        refine WC_seq ?_
        refine WC_region ?_
        refine WL_val rfl rfl rfl (R_move rfl rfl) ?_
        refine WL_val rfl rfl rfl (R_eql rfl rfl rfl) ?_
        refine WL_set (s := 35) (v := .bool false) rfl (by exact congrArg Value.bool (decide_eq_false (nxt_bad_ne hN))) ?_
        refine WL_val rfl rfl rfl (R_move rfl rfl) ?_
        refine WL_skip rfl rfl rfl ?_
        refine WL_skip rfl rfl rfl ?_
        refine WL_val rfl rfl rfl (R_pickF rfl rfl rfl) ?_
        refine WL_nil ?_
        refine WQ_code ?_
        refine WC_F rfl ?_
        refine WC_skip ?_
        refine WQ_code ?_
        refine WC_seq ?_
        refine WC_region ?_
        refine WL_val rfl rfl rfl (R_fieldAddr rfl fa37_4 rfl) ?_
        refine WL_val rfl rfl rfl (R_load rfl sc26 rfl (mmD) rfl) ?_
        refine WL_val rfl rfl rfl (R_move rfl rfl) ?_
        refine WL_val rfl rfl rfl (R_sliceFromG (m := 0) rfl Tryz.underlying26 Tryz.sizeOf5 rfl rfl (Nat.zero_le _)) ?_
        refine WL_val rfl rfl rfl (R_fieldAddr rfl fa37_4 rfl) ?_
        refine WL_do0 rfl rfl (D_store (vs := [_]) rfl Tryz.sizeOf26 rfl rfl rfl rfl rfl (plD) (by exact Nat.le_of_ble_eq_true rfl)) ?_
        rintro _ _ rfl
        refine WL_nil ?_
        refine WQ_code ?_
        refine WC_seq ?_
        refine WC_seq ?_
        refine WC_region ?_
        refine WL_val rfl rfl rfl (R_move rfl rfl) ?_
        refine WL_val rfl rfl rfl (R_eql rfl rfl rfl) ?_
        refine WL_set (s := 47) (v := .bool false) rfl (by exact congrArg Value.bool (decide_eq_false (nxt_bad_ne hN))) ?_
        refine WL_nil ?_
        refine WQ_code ?_
        refine WC_F rfl ?_
        refine WC_skip ?_
        refine WQ_code ?_
        refine WC_seq ?_
        refine WC_region ?_
        refine WL_val rfl rfl rfl (R_move rfl rfl) ?_
        refine WL_val rfl rfl rfl (R_neq rfl rfl rfl) ?_
        refine WL_set (s := 55) (v := .bool true) rfl (by exact congrArg Value.bool (decide_eq_true (nxt_bad_ne hN))) ?_
        refine WL_nil ?_
        refine WQ_code ?_
        refine WC_T rfl ?_
        refine WC_seq ?_
        refine WC_region ?_
        refine WL_val rfl rfl rfl (R_move rfl rfl) ?_
        refine WL_val rfl rfl rfl (R_fieldAddr rfl fa37_5 rfl) ?_
        refine WL_do0 rfl rfl (D_store (vs := [_]) rfl Tryz.sizeOf3 rfl rfl rfl rfl rfl (plD) (by exact Nat.le_of_ble_eq_true rfl)) ?_
        rintro _ _ rfl
        refine WL_nil ?_
        refine WQ_code ?_
        refine WC_seq ?_
        refine WC_region ?_
        refine WL_val rfl rfl rfl (R_loadA (vs := [_, _, _, _, _, _]) rfl ag37 rfl (mmD) rfl (atZ)) ?_
        refine WL_val rfl rfl rfl (R_move rfl rfl) ?_
        refine WL_do0 rfl rfl (D_store (vs := [_, _, _, _, _, _]) rfl Tryz.sizeOf37 rfl rfl rfl rfl rfl (plD) (by exact Nat.le_of_ble_eq_true rfl)) ?_
        rintro _ _ rfl
        refine WL_val rfl rfl rfl (R_assign rfl rfl) ?_
        refine WL_nil ?_
        refine WQ_code ?_
        refine WC_ret ?_
        refine WQ_ret rfl rfl (.cons (.cell (vs := [_, _, _, _, _, _]) rfl ag37 (mmD) rfl (atZ)) (.cons (.tmp rfl) .nil)) rfl (by
            have hR9 : R = ({ y.u with bs := [] }, y.u.bs, e, e) := by rw [← hR, rcv_bad hN]
            rw [hP, hR9]
            exact ⟨y.N, { y.m with a4 := dropA y.m.a4 y.m.c4 0 1, c4 := y.m.c4 - 0 }, (hS.ins (hS.bs.dropG encY1 hS.bc 0) hS.bc).reb rfl rfl rfl rfl, rfl, rfl⟩) (pqD)
      · obtain ⟨hm1, hm2, hm3⟩ := nxt_got hN
        have hcap := hS.bc
        have hu1 : ({ y.u with bs := y.u.bs.drop mm, br := 0 } : PV) = ({ y.u with bs := y.u.bs.drop mm } : PV) := by rw [← hb0]
        have hJ1 : PVJ ({ y.u with bs := y.u.bs.drop mm } : PV) := hJy.re rfl rfl rfl
        have hI1 : PVI ((y.u.bs.drop mm).length + (body.length + 6)) ({ y.u with bs := y.u.bs.drop mm } : PV) := by rw [show (y.u.bs.drop mm).length + (body.length + 6) = y.u.bs.length from by simp; omega]; exact hI.re rfl rfl rfl rfl
        have hg := rcv_got (n := y.n) hN
        rw [hR] at hg
        obtain ⟨hq1, hq2⟩ := req_br ({ y.u with bs := y.u.bs.drop mm } : PV) kk body
        have hbr2 : (({ y.u with bs := y.u.bs.drop mm } : PV).req kk body).1.br = 0 := hq1.trans hb0
        have hbs2 : (({ y.u with bs := y.u.bs.drop mm } : PV).req kk body).1.bs = y.u.bs.drop mm := hq2
        have ho1 := hI.out
        have ho2 := hI.qu
        refine WL_do rfl rfl rfl (D_call (wfst_got hS.bs (by omega) hS.bc hN) rfl rfl rfl rfl (pqD)) ?_
        rintro _ _ ⟨_, ⟨o9, c9, tl9, rfl, rfl, own9⟩, rfl⟩
        refine WL_val rfl rfl rfl (R_move rfl rfl) ?_
        refine WL_val rfl rfl rfl (R_extract rfl rfl rfl) ?_
        refine WL_val rfl rfl rfl (R_extract rfl rfl rfl) ?_
        refine WL_val rfl rfl rfl (R_extract rfl rfl rfl) ?_
        refine WL_do rfl rfl rfl (D_alloc rfl zv112) ?_
        rintro _ _ ⟨b5, rfl, rfl⟩
        refine WL_do0 rfl rfl (D_store (vs := [_, _]) rfl Tryz.sizeOf112 rfl rfl rfl rfl rfl (plD) (by exact Nat.le_of_ble_eq_true rfl)) ?_
        rintro _ _ rfl
        refine WL_val rfl rfl rfl (R_assign rfl rfl) ?_
        refine WL_val rfl rfl rfl (R_assign rfl rfl) ?_
        refine WL_nil ?_
        refine WQ_code ?_
        refine WC_seq ?_
        refine WC_seq ?_
        refine WC_region ?_
        refine WL_val rfl rfl rfl (R_move rfl rfl) ?_
        refine WL_val rfl rfl rfl (R_eql rfl rfl rfl) ?_
        refine WL_set (s := 35) (v := .bool true) rfl (by rfl) ?_
        refine WL_val rfl rfl rfl (R_move rfl rfl) ?_
        refine WL_val rfl rfl rfl (R_move rfl rfl) ?_
        refine WL_val rfl rfl rfl (R_eql rfl rfl rfl) ?_
        refine WL_set (s := 38) (v := .bool false) rfl (by exact congrArg Value.bool (decide_eq_false (by omega))) ?_
        refine WL_val rfl rfl rfl (R_pickT rfl rfl rfl) ?_
        refine WL_nil ?_
        refine WQ_code ?_
        refine WC_F rfl ?_
        refine WC_skip ?_
        refine WQ_code ?_
        refine WC_seq ?_
        refine WC_region ?_
        refine WL_val rfl rfl rfl (R_fieldAddr rfl fa37_4 rfl) ?_
        refine WL_val rfl rfl rfl (R_load rfl sc26 rfl (mmD) rfl) ?_
        refine WL_val rfl rfl rfl (R_move rfl rfl) ?_
        refine WL_val rfl rfl rfl (R_sliceFromG (m := mm) rfl Tryz.underlying26 Tryz.sizeOf5 rfl rfl (by omega)) ?_
        rw [show y.u.bs.length - mm = (y.u.bs.drop mm).length from by simp]
        refine WL_val rfl rfl rfl (R_fieldAddr rfl fa37_4 rfl) ?_
        refine WL_do0 rfl rfl (D_store (vs := [_]) rfl Tryz.sizeOf26 rfl rfl rfl rfl rfl (plD) (by exact Nat.le_of_ble_eq_true rfl)) ?_
        rintro _ _ rfl
        refine WL_nil ?_
        refine WQ_code ?_
        refine WC_seq ?_
        refine WC_seq ?_
        refine WC_region ?_
        refine WL_val rfl rfl rfl (R_move rfl rfl) ?_
        refine WL_val rfl rfl rfl (R_eql rfl rfl rfl) ?_
        refine WL_set (s := 47) (v := .bool true) rfl (by rfl) ?_
        refine WL_nil ?_
        refine WQ_code ?_
        refine WC_T rfl ?_
        refine WC_region ?_
        refine WL_val rfl rfl rfl (R_loadA (vs := [_, _, _, _, _, _]) rfl ag37 rfl (mmD) rfl (atZ)) ?_
        refine WL_set (s := 49) (v := svv ({ y.m with a4 := dropA y.m.a4 y.m.c4 mm 1, c4 := y.m.c4 - mm }) ({ y.u with bs := y.u.bs.drop mm } : PV)) rfl (by show _ = Value.agg _; rw [← hb0]) ?_
        refine WL_val rfl rfl rfl (R_loadA (vs := [_, _]) rfl ag112 rfl (mmD) rfl (atZ)) ?_
        refine WL_do rfl rfl rfl (D_call (wreq_ok hfull (u := ({ y.u with bs := y.u.bs.drop mm } : PV)) (m := { y.m with a4 := dropA y.m.a4 y.m.c4 mm 1, c4 := y.m.c4 - mm }) (M := [⟨o9, cl (bvs body ++ tl9) 5⟩] ++ (y.N ++ M)) ((hS.ins (hS.bs.dropG encY1 hS.bc mm) (by rw [List.length_drop]; omega)).up [⟨o9, cl (bvs body ++ tl9) 5⟩]) hJ1 kk (RdM.own (e := 5) own9 _) own9.le hm3 (by dsimp only; omega) (by dsimp only; omega)) rfl rfl rfl rfl (pqD)) ?_
        rintro _ _ ⟨_, ⟨N2, m2, hS2, rfl, rfl⟩, rfl⟩
        refine WL_val rfl rfl rfl (R_move rfl rfl) ?_
        refine WL_val rfl rfl rfl (R_extract rfl rfl rfl) ?_
        refine WL_val rfl rfl rfl (R_extract rfl rfl rfl) ?_
        refine WL_do0 rfl rfl (D_store (vs := [_, _, _, _, _, _]) rfl Tryz.sizeOf37 rfl rfl rfl rfl rfl (plD) (by exact Nat.le_of_ble_eq_true rfl)) ?_
        rintro _ _ rfl
        refine WL_val rfl rfl rfl (R_assign rfl rfl) ?_
        refine WL_nil ?_
        refine WQ_code ?_
        refine WC_seq ?_
        refine WC_region ?_
        by_cases h5 : (({ y.u with bs := y.u.bs.drop mm } : PV).req kk body).2 = 0
        · refine WL_val rfl rfl rfl (R_move rfl rfl) ?_
          refine WL_val rfl rfl rfl (R_neq rfl rfl rfl) ?_
          refine WL_set (s := 55) (v := .bool false) rfl (by exact congrArg Value.bool (decide_eq_false (fun e => e h5))) ?_
          rw [if_pos h5] at hg
          obtain ⟨n9, hn9⟩ : ∃ n9, y.n = n9 + 1 := ⟨y.n - 1, by omega⟩
          have hR2 : rcvN PV.step (n9 + 1) { (({ y.u with bs := y.u.bs.drop mm } : PV).req kk body).1 with bs := [] } (({ y.u with bs := y.u.bs.drop mm } : PV).req kk body).1.bs = R := by rw [hbs2, hg, hn9]
          rw [hbr2]
          refine WL_nil ?_
          refine WQ_code ?_
          refine WC_F rfl ?_
          refine WC_skip ?_
          refine WQ_nextF (gg := y) (⟨(({ y.u with bs := y.u.bs.drop mm } : PV).req kk body).1, n9, m2, N2 ++ ([⟨o9, cl (bvs body ++ tl9) 5⟩] ++ y.N)⟩) (⟨by rw [List.append_assoc, List.append_assoc]; exact hS2, hJ1.req _ _, hbr2, hR2, by dsimp only; rw [hbs2]; simp; omega, by dsimp only; rw [hbs2]; simp; omega, by dsimp only; rw [hbs2]; exact hI1.req⟩) (by dsimp only; rw [hbs2]; simp; omega) leZ (psZ) rfl (pqD)
        · refine WL_val rfl rfl rfl (R_move rfl rfl) ?_
          refine WL_val rfl rfl rfl (R_neq rfl rfl rfl) ?_
          refine WL_set (s := 55) (v := .bool true) rfl (by exact congrArg Value.bool (decide_eq_true h5)) ?_
          refine WL_nil ?_
          refine WQ_code ?_
          refine WC_T rfl ?_
          refine WC_seq ?_
          refine WC_region ?_
          refine WL_val rfl rfl rfl (R_move rfl rfl) ?_
          refine WL_val rfl rfl rfl (R_fieldAddr rfl fa37_5 rfl) ?_
          refine WL_do0 rfl rfl (D_store (vs := [_]) rfl Tryz.sizeOf3 rfl rfl rfl rfl rfl (plD) (by exact Nat.le_of_ble_eq_true rfl)) ?_
          rintro _ _ rfl
          refine WL_nil ?_
          refine WQ_code ?_
          refine WC_seq ?_
          refine WC_region ?_
          refine WL_val rfl rfl rfl (R_loadA (vs := [_, _, _, _, _, _]) rfl ag37 rfl (mmD) rfl (atZ)) ?_
          refine WL_val rfl rfl rfl (R_move rfl rfl) ?_
          refine WL_do0 rfl rfl (D_store (vs := [_, _, _, _, _, _]) rfl Tryz.sizeOf37 rfl rfl rfl rfl rfl (plD) (by exact Nat.le_of_ble_eq_true rfl)) ?_
          rintro _ _ rfl
          refine WL_val rfl rfl rfl (R_assign rfl rfl) ?_
          refine WL_nil ?_
          refine WQ_code ?_
          refine WC_ret ?_
          refine WQ_ret rfl rfl (.cons (.cell (vs := [_, _, _, _, _, _]) rfl ag37 (mmD) rfl (atZ)) (.cons (.tmp rfl) .nil)) rfl (by
              rw [if_neg h5] at hg
              rw [hP, hg]
              exact ⟨N2 ++ ([⟨o9, cl (bvs body ++ tl9) 5⟩] ++ y.N), m2, by rw [List.append_assoc, List.append_assoc]; exact hS2.reb rfl rfl rfl hbs2.symm, by rw [hbs2]; rfl, by rw [List.append_assoc, List.append_assoc]⟩) (pqD)
end Go.Proofs.YtdelhikejgoffaaGreat
end
section
set_option linter.unusedVariables false
set_option maxRecDepth 20000
set_option maxHeartbeats 1000000
namespace Go.Proofs.YtdelhikejgoffaaGreat
/-- A call of the laws, and where its data lies. -/
structure Ac where
  what : Int
  id : Int
  n : Int
  t : Nat
  oa : Option Addr
  c : Nat
  data : Bs
abbrev encAc (m : Ac) : List Value := [.int .i64 m.what, .int .i64 m.id, .int .i64 m.n, .int .u64 (m.t : Int), .slice m.oa m.data.length m.c]
def LstM (M : Heap) (ol : Option Addr) (l : List Ac) : Prop := 0 < l.length → ∃ b k cs e fr, ol = some ⟨b, k, none⟩ ∧ (⟨some b, .cells (List.toArray cs) e fr⟩ : Ent) ∈ M ∧ ∀ (i : Nat) (m : Ac), l[i]? = some m → At cs (k + i * 5) (encAc m)
theorem LstM.up {M : Heap} {ol : Option Addr} {l : List Ac} (h : LstM M ol l) (N : Heap) : LstM (N ++ M) ol l := fun hl => by
  obtain ⟨b, k, cs, e, fr, h1, h2, h3⟩ := h hl
  exact ⟨b, k, cs, e, fr, h1, List.mem_append_right _ h2, h3⟩
theorem take_same {a b : List Int} {k : Nat} {x : Int} (h : a.take k = b.take k) (h1 : a[k]? = some x) (h2 : b[k]? = some x) : a.take (k + 1) = b.take (k + 1) := by rw [take_next h1, take_next h2, h]
theorem wdiff {a b : List Int} {k : Nat} {x y : Int} (h1 : a[k]? = some x) (h2 : b[k]? = some y) (h : x ≠ y) : a ≠ b := fun e => by rw [e, h2] at h1; exact h (Option.some.inj h1).symm
end Go.Proofs.YtdelhikejgoffaaGreat
end
section
set_option linter.unusedVariables false
set_option maxRecDepth 20000
set_option maxHeartbeats 4000000
namespace Go.Proofs.YtdelhikejgoffaaGreat
theorem few_ok (DH : Heap) (l : List Ac) (hl : l.length ≤ 9223372036854775807) {ol : Option Addr} {cl9 : Nat} (hlst : LstM DH ol l) : Spec Tryz.prog 5 [.slice ol l.length cl9, .int .i64 40] DH (fun r H' => ∃ b, r = .bool b ∧ (b = true → l.length ≤ 40 ∧ ∀ m ∈ l, m.data.length ≤ 1100) ∧ DH = H') := by
  refine Spec.of (E := [(0, .slice ol l.length cl9), (1, .int .i64 40)]) Tryz.func5 rfl (by kernel_rfl) Tryz.ntmps5 rfl rfl (fun w => ?_)
  refine WC_seq ?_
  refine WC_region ?_
  refine WL_val rfl rfl rfl (R_assign rfl rfl) ?_
  refine WL_nil ?_
  refine WQ_code ?_
  refine WC_seq ?_
  refine WC_seq ?_
  refine WC_region ?_
  refine WL_val rfl rfl rfl (R_assign rfl rfl) ?_
  refine WL_nil ?_
  refine WQ_code ?_
  refine WC_block ?_
  refine WC_loopF (G := Nat) [4, 5, 6, 7, 8, 9, 10, 11, 12, 13, 14, 15, 16, 17, 18, 19, 20, 21, 22, 23] (fun y => y ≤ l.length ∧ y ≤ 40 ∧ ∀ m ∈ l.take y, m.data.length ≤ 1100) (fun y => [(5, .int .i64 (y : Int))]) (fun y => []) (fun y => l.length - y) (0) (⟨Nat.zero_le _, Nat.zero_le _, fun m hm => by cases hm⟩) leZ (pqD) ?_
  rintro y ⟨hy, hy40, hall⟩
  refine WC_seq ?_
  refine WC_seq ?_
  refine WC_region ?_
  refine WL_val rfl rfl rfl (R_move rfl rfl) ?_
  refine WL_val rfl rfl rfl (R_move rfl rfl) ?_
  refine WL_val rfl rfl rfl (R_len rfl Tryz.underlying22 rfl) ?_
  refine WL_val rfl rfl rfl (R_lss rfl rfl rfl) ?_
  refine WL_val rfl rfl rfl (R_move rfl rfl) ?_
  refine WL_splitD (s := 10) rfl (fun c1 => ?_) (fun c1 => ?_)
  · have hq := c1
    refine WL_val rfl rfl rfl (R_move rfl rfl) ?_
    refine WL_val rfl rfl rfl (R_move rfl rfl) ?_
    refine WL_val rfl rfl rfl (R_lss rfl rfl rfl) ?_
    refine WL_val rfl rfl rfl (R_pickT rfl rfl rfl) ?_
    refine WL_nil ?_
    refine WQ_code ?_
    refine WC_dec rfl (fun c2 => ?_) (fun c2 => ?_)
    · have hy4 : y < 40 := by omega
      refine WC_skip ?_
      refine WQ_code ?_
      refine WC_seq ?_
      refine WC_block ?_
      refine WC_seq ?_
      refine WC_region ?_
      refine WL_val rfl rfl rfl (R_move rfl rfl) ?_
      refine WL_val rfl rfl rfl (R_move rfl rfl) ?_
      obtain ⟨mv, hmv⟩ := getE (T := l) (i := y) (by omega)
      obtain ⟨lb, lk, lcs, le, lfr, rfl, hlm, hlat⟩ := hlst (by omega)
      refine WL_val rfl rfl rfl (R_indexAddr rfl Tryz.underlying22 Tryz.sizeOf43 rfl rfl (by omega)) ?_
      refine WL_val rfl rfl rfl (R_fieldAddr rfl fa43_4 rfl) ?_
      refine WL_val rfl rfl rfl (R_loadG (v := .slice mv.oa mv.data.length mv.c) rfl sc26 rfl (pulls_mem (pqD : Pulls DH _ _) hlm) (hlat y mv hmv 4 _ rfl)) ?_
      refine WL_val rfl rfl rfl (R_len rfl Tryz.underlying26 rfl) ?_
      refine WL_val rfl rfl rfl (R_gtr rfl rfl rfl) ?_
      refine WL_nil ?_
      refine WQ_code ?_
      refine WC_dec rfl (fun c3 => ?_) (fun c3 => ?_)
      · refine WC_seq ?_
        refine WC_region ?_
        refine WL_val rfl rfl rfl (R_assign rfl rfl) ?_
        refine WL_nil ?_
        refine WQ_code ?_
        refine WC_ret ?_
        refine WQ_ret rfl rfl (.cons (.tmp rfl) .nil) rfl (by
            exact ⟨_, rfl, (fun e => by cases e), rfl⟩) (pqD)
      · refine WC_skip ?_
        refine WQ_code ?_
        refine WC_region ?_
        refine WL_val rfl rfl rfl (R_move rfl rfl) ?_
        refine WL_val rfl rfl rfl (R_add rfl rfl rfl (by omega)) ?_
        refine WL_val rfl rfl rfl (R_assign rfl rfl) ?_
        refine WL_nil ?_
        refine WQ_nextF (y + 1) (⟨by omega, by omega, fun m hm => by rw [take_next hmv] at hm; rcases List.mem_append.1 hm with h9 | h9; exact hall m h9; rw [List.mem_singleton.1 h9]; omega⟩) (by omega) leZ (psZ) rfl (pqD)
    · refine WC_exit ?_
      refine WQ_code ?_
      refine WC_seq ?_
      refine WC_region ?_
      refine WL_val rfl rfl rfl (R_move rfl rfl) ?_
      refine WL_val rfl rfl rfl (R_len rfl Tryz.underlying22 rfl) ?_
      refine WL_val rfl rfl rfl (R_move rfl rfl) ?_
      refine WL_val rfl rfl rfl (R_leq rfl rfl rfl) ?_
      refine WL_val rfl rfl rfl (R_assign rfl rfl) ?_
      refine WL_nil ?_
      refine WQ_code ?_
      refine WC_ret ?_
      refine WQ_ret rfl rfl (.cons (.tmp rfl) .nil) rfl (by
          refine ⟨_, rfl, fun e => ?_, rfl⟩
          have h9 := of_decide_eq_true e
          have hyl : y = l.length := by omega
          exact ⟨by omega, fun m hm => hall m (by rw [hyl, List.take_length]; exact hm)⟩) (pqD)
  · have hq := c1
    refine WL_skip rfl rfl rfl ?_
    refine WL_skip rfl rfl rfl ?_
    refine WL_skip rfl rfl rfl ?_
    refine WL_val rfl rfl rfl (R_pickF rfl rfl rfl) ?_
    refine WL_nil ?_
    refine WQ_code ?_
    refine WC_F rfl ?_
    refine WC_exit ?_
    refine WQ_code ?_
    refine WC_seq ?_
    refine WC_region ?_
    refine WL_val rfl rfl rfl (R_move rfl rfl) ?_
    refine WL_val rfl rfl rfl (R_len rfl Tryz.underlying22 rfl) ?_
    refine WL_val rfl rfl rfl (R_move rfl rfl) ?_
    refine WL_val rfl rfl rfl (R_leq rfl rfl rfl) ?_
    refine WL_val rfl rfl rfl (R_assign rfl rfl) ?_
    refine WL_nil ?_
    refine WQ_code ?_
    refine WC_ret ?_
    refine WQ_ret rfl rfl (.cons (.tmp rfl) .nil) rfl (by
        refine ⟨_, rfl, fun e => ?_, rfl⟩
        have h9 := of_decide_eq_true e
        have hyl : y = l.length := by omega
        exact ⟨by omega, fun m hm => hall m (by rw [hyl, List.take_length]; exact hm)⟩) (pqD)
theorem ints_ok {M : Heap} {a b : List Int} {oa ob : Option Addr} {ca cb : Nat} (h1 : RdM encI M oa a) (h2 : RdM encI M ob b) (hl : a.length ≤ 1000000) (hl2 : b.length ≤ 1000000) : Spec Tryz.prog 8 [.slice oa a.length ca, .slice ob b.length cb] M (fun r H' => r = .bool (decide (a = b)) ∧ M = H') := by
  refine Spec.of (E := [(0, .slice oa a.length ca), (1, .slice ob b.length cb)]) Tryz.func8 rfl (by kernel_rfl) Tryz.ntmps8 rfl rfl (fun w => ?_)
  refine WC_seq ?_
  refine WC_region ?_
  refine WL_val rfl rfl rfl (R_assign rfl rfl) ?_
  refine WL_nil ?_
  refine WQ_code ?_
  refine WC_seq ?_
  refine WC_seq ?_
  refine WC_region ?_
  refine WL_val rfl rfl rfl (R_move rfl rfl) ?_
  refine WL_val rfl rfl rfl (R_len rfl Tryz.underlying32 rfl) ?_
  refine WL_val rfl rfl rfl (R_move rfl rfl) ?_
  refine WL_val rfl rfl rfl (R_len rfl Tryz.underlying32 rfl) ?_
  refine WL_val rfl rfl rfl (R_neq rfl rfl rfl) ?_
  refine WL_nil ?_
  refine WQ_code ?_
  refine WC_dec rfl (fun c1 => ?_) (fun c1 => ?_)
  · have hne : a ≠ b := fun e => c1 (by rw [e])
    refine WC_seq ?_
    refine WC_region ?_
    refine WL_val rfl rfl rfl (R_assign rfl rfl) ?_
    refine WL_nil ?_
    refine WQ_code ?_
    refine WC_ret ?_
    refine WQ_ret rfl rfl (.cons (.tmp rfl) .nil) rfl (by
        first | exact ⟨congrArg Value.bool (decide_eq_false hne).symm, rfl⟩ | exact ⟨congrArg Value.bool (decide_eq_true hE).symm, rfl⟩) (pqD)
  · have hab : a.length = b.length := by omega
    refine WC_skip ?_
    refine WQ_code ?_
    refine WC_seq ?_
    refine WC_seq ?_
    refine WC_region ?_
    refine WL_val rfl rfl rfl (R_assign rfl rfl) ?_
    refine WL_nil ?_
    refine WQ_code ?_
    refine WC_block ?_
    refine WC_loopF (G := Nat) [4, 5, 11, 12, 13, 14, 15, 16, 17, 18, 19, 20, 21, 22, 23, 24, 25] (fun y => y ≤ a.length ∧ a.take y = b.take y) (fun y => [(5, .int .i64 (y : Int))]) (fun y => []) (fun y => a.length - y) (0) (⟨Nat.zero_le _, rfl⟩) leZ (pqD) ?_
    rintro y ⟨hy, hsame⟩
    refine WC_seq ?_
    refine WC_seq ?_
    refine WC_region ?_
    refine WL_val rfl rfl rfl (R_move rfl rfl) ?_
    refine WL_val rfl rfl rfl (R_move rfl rfl) ?_
    refine WL_val rfl rfl rfl (R_len rfl Tryz.underlying32 rfl) ?_
    refine WL_val rfl rfl rfl (R_lss rfl rfl rfl) ?_
    refine WL_nil ?_
    refine WQ_code ?_
    refine WC_dec rfl (fun c2 => ?_) (fun c2 => ?_)
    · refine WC_skip ?_
      refine WQ_code ?_
      refine WC_seq ?_
      refine WC_block ?_
      refine WC_seq ?_
      refine WC_draw _ [(0, true), (1, true), (2, true), (3, true), (4, true), (5, true), (6, true), (7, true), (8, true)] followsMixed rfl rfl (by kernel_rfl) .all ?_
      obtain ⟨x, hx⟩ := getE (T := a) (i := y) (by omega)
      obtain ⟨z, hz⟩ := getE (T := b) (i := y) (by omega)
      obtain ⟨ent, hm, hr9⟩ := h1
      obtain ⟨rb, rk, rcs, re, rfr, rfl, rfl, hat⟩ := hr9 (by omega)
      obtain ⟨ent2, hm2, hr92⟩ := h2
      obtain ⟨rb2, rk2, rcs2, re2, rfr2, rfl, rfl, hat2⟩ := hr92 (by omega)
      refine WM_val rfl rfl rfl rfl (R_move rfl rfl) ?_
      refine WM_val rfl rfl rfl rfl (R_move rfl rfl) ?_
      refine WM_val rfl rfl rfl rfl (R_indexAddr rfl Tryz.underlying32 Tryz.sizeOf3 rfl rfl (by omega)) ?_
      refine WM_val rfl rfl rfl rfl (R_loadG (v := .int .i64 x) rfl sc3 rfl (pulls_mem (pqD : Pulls M _ _) hm) (At.fm hat encI1 hx 0 _ rfl)) ?_
      refine WM_val rfl rfl rfl rfl (R_move rfl rfl) ?_
      refine WM_val rfl rfl rfl rfl (R_move rfl rfl) ?_
      refine WM_val rfl rfl rfl rfl (R_indexAddr rfl Tryz.underlying32 Tryz.sizeOf3 rfl rfl (by omega)) ?_
      refine WM_val rfl rfl rfl rfl (R_loadG (v := .int .i64 z) rfl sc3 rfl (pulls_mem (pqD : Pulls M _ _) hm2) (At.fm hat2 encI1 hz 0 _ rfl)) ?_
      refine WM_val rfl rfl rfl rfl (R_neq rfl rfl rfl) ?_
      refine WM_nil ?_
      refine WQ_code ?_
      refine WC_dec rfl (fun c3 => ?_) (fun c3 => ?_)
      · have hne : a ≠ b := wdiff hx hz c3
        refine WC_seq ?_
        refine WC_region ?_
        refine WL_val rfl rfl rfl (R_assign rfl rfl) ?_
        refine WL_nil ?_
        refine WQ_code ?_
        refine WC_ret ?_
        refine WQ_ret rfl rfl (.cons (.tmp rfl) .nil) rfl (by
            first | exact ⟨congrArg Value.bool (decide_eq_false hne).symm, rfl⟩ | exact ⟨congrArg Value.bool (decide_eq_true hE).symm, rfl⟩) (pqD)
      · have hxz : x = z := Decidable.byContradiction c3
        refine WC_skip ?_
        refine WQ_code ?_
        refine WC_region ?_
        refine WL_val rfl rfl rfl (R_move rfl rfl) ?_
        refine WL_val rfl rfl rfl (R_add rfl rfl rfl (by omega)) ?_
        refine WL_val rfl rfl rfl (R_assign rfl rfl) ?_
        refine WL_nil ?_
        refine WQ_nextF (y + 1) (⟨by omega, take_same hsame hx (hxz ▸ hz)⟩) (by omega) leZ (psZ) rfl (pqD)
    · have hya : y = a.length := by omega
      have hE : a = b := by rw [hya, List.take_length, hab, List.take_length] at hsame; exact hsame
      refine WC_exit ?_
      refine WQ_code ?_
      refine WC_seq ?_
      refine WC_region ?_
      refine WL_val rfl rfl rfl (R_assign rfl rfl) ?_
      refine WL_nil ?_
      refine WQ_code ?_
      refine WC_ret ?_
      refine WQ_ret rfl rfl (.cons (.tmp rfl) .nil) rfl (by
          first | exact ⟨congrArg Value.bool (decide_eq_false hne).symm, rfl⟩ | exact ⟨congrArg Value.bool (decide_eq_true hE).symm, rfl⟩) (pqD)
theorem taken_bad {M : Heap} {out : Bs} {oa : Option Addr} {c : Nat} (n : Int) (hn : n < 0 ∨ 65536 < n) : Spec Tryz.prog 26 [.slice oa out.length c, .int .i64 n, .slice none 0 0, .int .i64 2] M (fun r H' => r = .tuple #[.slice oa out.length c, .bool true] ∧ M = H') := by
  refine Spec.of (E := [(0, .slice oa out.length c), (1, .int .i64 n), (2, .slice none 0 0), (3, .int .i64 2)]) Tryz.func26 rfl (by kernel_rfl) Tryz.ntmps26 rfl rfl (fun w => ?_)
  refine WC_seq ?_
  refine WC_region ?_
  refine WL_val rfl rfl rfl (R_assign rfl rfl) ?_
  refine WL_val rfl rfl rfl (R_assign rfl rfl) ?_
  refine WL_nil ?_
  refine WQ_code ?_
  refine WC_seq ?_
  refine WC_seq ?_
  refine WC_region ?_
  refine WL_val rfl rfl rfl (R_move rfl rfl) ?_
  refine WL_val rfl rfl rfl (R_lss rfl rfl rfl) ?_
  refine WL_val rfl rfl rfl (R_move rfl rfl) ?_
  refine WL_splitD (s := 13) rfl (fun c1 => ?_) (fun c1 => ?_)
  · have hq := c1
    refine WL_skip rfl rfl rfl ?_
    refine WL_skip rfl rfl rfl ?_
    refine WL_val rfl rfl rfl (R_pickT rfl rfl rfl) ?_
    refine WL_nil ?_
    refine WQ_code ?_
    refine WC_T rfl ?_
    refine WC_seq ?_
    refine WC_region ?_
    refine WL_val rfl rfl rfl (R_move rfl rfl) ?_
    refine WL_val rfl rfl rfl (R_move rfl rfl) ?_
    refine WL_val rfl rfl rfl (R_len rfl Tryz.underlying26 rfl) ?_
    refine WL_val rfl rfl rfl (R_eql rfl rfl rfl) ?_
    refine WL_set (s := 20) (v := .bool true) rfl (by rfl) ?_
    refine WL_val rfl rfl rfl (R_move rfl rfl) ?_
    refine WL_val rfl rfl rfl (R_move rfl rfl) ?_
    refine WL_val rfl rfl rfl (R_eql rfl rfl rfl) ?_
    refine WL_set (s := 23) (v := .bool true) rfl (by rfl) ?_
    refine WL_val rfl rfl rfl (R_pickT rfl rfl rfl) ?_
    refine WL_val rfl rfl rfl (R_assign rfl rfl) ?_
    refine WL_val rfl rfl rfl (R_assign rfl rfl) ?_
    refine WL_nil ?_
    refine WQ_code ?_
    refine WC_ret ?_
    refine WQ_ret rfl rfl (.cons (.tmp rfl) (.cons (.tmp rfl) .nil)) rfl (by
        exact ⟨rfl, rfl⟩) (pqD)
  · have hq := c1
    refine WL_val rfl rfl rfl (R_move rfl rfl) ?_
    refine WL_val rfl rfl rfl (R_gtr rfl rfl rfl) ?_
    refine WL_val rfl rfl rfl (R_pickF rfl rfl rfl) ?_
    refine WL_nil ?_
    refine WQ_code ?_
    refine WC_dT rfl (by omega) ?_
    refine WC_seq ?_
    refine WC_region ?_
    refine WL_val rfl rfl rfl (R_move rfl rfl) ?_
    refine WL_val rfl rfl rfl (R_move rfl rfl) ?_
    refine WL_val rfl rfl rfl (R_len rfl Tryz.underlying26 rfl) ?_
    refine WL_val rfl rfl rfl (R_eql rfl rfl rfl) ?_
    refine WL_set (s := 20) (v := .bool true) rfl (by rfl) ?_
    refine WL_val rfl rfl rfl (R_move rfl rfl) ?_
    refine WL_val rfl rfl rfl (R_move rfl rfl) ?_
    refine WL_val rfl rfl rfl (R_eql rfl rfl rfl) ?_
    refine WL_set (s := 23) (v := .bool true) rfl (by rfl) ?_
    refine WL_val rfl rfl rfl (R_pickT rfl rfl rfl) ?_
    refine WL_val rfl rfl rfl (R_assign rfl rfl) ?_
    refine WL_val rfl rfl rfl (R_assign rfl rfl) ?_
    refine WL_nil ?_
    refine WQ_code ?_
    refine WC_ret ?_
    refine WQ_ret rfl rfl (.cons (.tmp rfl) (.cons (.tmp rfl) .nil)) rfl (by
        exact ⟨rfl, rfl⟩) (pqD)
theorem taken_ok {M : Heap} {out : Bs} {oa : Option Addr} {c : Nat} (hr : RdM encY M oa out) (hc : out.length ≤ c) (hl : out.length ≤ 1000000) (k : Nat) (hk : k ≤ 65536) {ob : Option Addr} {cb : Nat} (hb : RdM encY M ob (out.take k)) : Spec Tryz.prog 26 [.slice oa out.length c, .int .i64 (k : Int), .slice ob (out.take k).length cb, .int .i64 0] M (fun r H' => ∃ oa' c', r = .tuple #[.slice oa' (out.drop k).length c', .bool true] ∧ RdM encY M oa' (out.drop k) ∧ (out.drop k).length ≤ c' ∧ M = H') := by
  obtain ⟨mn, ⟨hmn, hml⟩, hmT, hmD⟩ := take_min out k
  rw [hmT] at hb ⊢
  rw [hmD]
  refine Spec.of (E := [(0, .slice oa out.length c), (1, .int .i64 (k : Int)), (2, .slice ob (out.take mn).length cb), (3, .int .i64 0)]) Tryz.func26 rfl (by kernel_rfl) Tryz.ntmps26 rfl rfl (fun w => ?_)
  refine WC_seq ?_
  refine WC_region ?_
  refine WL_val rfl rfl rfl (R_assign rfl rfl) ?_
  refine WL_val rfl rfl rfl (R_assign rfl rfl) ?_
  refine WL_nil ?_
  refine WQ_code ?_
  refine WC_seq ?_
  refine WC_seq ?_
  refine WC_region ?_
  refine WL_val rfl rfl rfl (R_move rfl rfl) ?_
  refine WL_val rfl rfl rfl (R_lss rfl rfl rfl) ?_
  refine WL_val rfl rfl rfl (R_move rfl rfl) ?_
  refine WL_set (s := 13) (v := .bool false) rfl (by exact congrArg Value.bool (decide_eq_false (by omega))) ?_
  refine WL_val rfl rfl rfl (R_move rfl rfl) ?_
  refine WL_val rfl rfl rfl (R_gtr rfl rfl rfl) ?_
  refine WL_val rfl rfl rfl (R_pickF rfl rfl rfl) ?_
  refine WL_nil ?_
  refine WQ_code ?_
  refine WC_dF rfl (by omega) ?_
  refine WC_skip ?_
  refine WQ_code ?_
  refine WC_seq ?_
  refine WC_region ?_
  refine WL_val rfl rfl rfl (R_move rfl rfl) ?_
  refine WL_val rfl rfl rfl (R_move rfl rfl) ?_
  refine WL_val rfl rfl rfl (R_len rfl Tryz.underlying26 rfl) ?_
  refine WL_val rfl rfl rfl (R_minR (r := (mn : Int)) rfl rfl rfl hmn) ?_
  refine WL_val rfl rfl rfl (R_assign rfl rfl) ?_
  refine WL_nil ?_
  refine WQ_code ?_
  refine WC_seq ?_
  refine WC_draw _ [(0, true), (1, true), (2, true), (3, true), (4, true), (5, true), (6, true), (7, true), (8, true), (9, true), (10, true), (11, true), (12, true), (13, true), (14, true), (15, true)] followsMixed rfl rfl (by kernel_rfl) .all ?_
  obtain ⟨ent, hm, hrb⟩ := hr.b
  obtain ⟨ent2, hm2, hrb2⟩ := hb.b
  have htl : (out.take mn).length = mn := by simp; omega
  refine WM_val rfl rfl rfl rfl (R_move rfl rfl) ?_
  refine WM_val rfl rfl rfl rfl (R_move rfl rfl) ?_
  refine WM_val rfl rfl rfl rfl (R_sliceFromG (m := mn) rfl Tryz.underlying26 Tryz.sizeOf5 rfl rfl (by omega)) ?_
  refine WM_val rfl rfl rfl rfl (R_move rfl rfl) ?_
  refine WM_val rfl rfl rfl rfl (R_byteStr rfl Tryz.underlying26 Tryz.underlying5 Tryz.underlying9 rfl hrb2 (pulls_mem (pqD : Pulls M _ _) hm2)) ?_
  refine WM_val rfl rfl rfl rfl (R_move rfl rfl) ?_
  refine WM_val rfl rfl rfl rfl (R_move rfl rfl) ?_
  refine WM_val rfl rfl rfl rfl (R_sliceTo (m := mn) rfl Tryz.underlying26 Tryz.sizeOf5 rfl rfl (by omega)) ?_
  refine WM_set (s := 36) (v := .slice oa (out.take mn).length c) rfl (by rw [htl]) ?_
  refine WM_val rfl rfl rfl rfl (R_byteStr rfl Tryz.underlying26 Tryz.underlying5 Tryz.underlying9 rfl (hrb.take mn) (pulls_mem (pqD : Pulls M _ _) hm)) ?_
  refine WM_val rfl rfl rfl rfl (R_strEq rfl Tryz.underlying9 rfl rfl) ?_
  refine WM_set (s := 38) (v := .bool true) rfl (by exact congrArg Value.bool (decide_eq_true rfl)) ?_
  refine WM_val rfl rfl rfl rfl (R_move rfl rfl) ?_
  refine WM_val rfl rfl rfl rfl (R_move rfl rfl) ?_
  refine WM_val rfl rfl rfl rfl (R_eql rfl rfl rfl) ?_
  refine WM_set (s := 41) (v := .bool true) rfl (by rfl) ?_
  refine WM_val rfl rfl rfl rfl (R_pickT rfl rfl rfl) ?_
  refine WM_val rfl rfl rfl rfl (R_assign rfl rfl) ?_
  refine WM_val rfl rfl rfl rfl (R_assign rfl rfl) ?_
  refine WM_nil ?_
  refine WQ_code ?_
  refine WC_ret ?_
  refine WQ_ret rfl rfl (.cons (.tmp rfl) (.cons (.tmp rfl) .nil)) rfl (by
      exact ⟨dropA oa c mn 1, c - mn, by rw [List.length_drop]; rfl, hr.dropG encY1 hc mn, by rw [List.length_drop]; omega, rfl⟩) (pqD)
end Go.Proofs.YtdelhikejgoffaaGreat
end
section
set_option linter.unusedVariables false
set_option maxRecDepth 20000
set_option maxHeartbeats 1000000
namespace Go.Proofs.YtdelhikejgoffaaGreat
def xorB (v : UInt8) : UInt8 := UInt8.ofNat (BitVec.ofInt 8 255 ^^^ BitVec.ofInt 8 (v.toNat : Int)).toNat
theorem R_xor8 {X : Ctx} {E : Env} {H : Heap} {o : Oper} {t : TypeId} {x : Operand} {v : UInt8} (ho : o.op = .unOp .xor t x) (h : ev E x = some (.int .u8 (v.toNat : Int))) : Runs X o E H (.int .u8 ((xorB v).toNat : Int)) :=
  ⟨(by rw [ho]; intro c e; cases e), fun a w ha _ => by
    have hx : (IntKind.u8.wrap ((BitVec.ofInt 8 255 ^^^ BitVec.ofInt 8 (v.toNat : Int)).toNat : Int)) = ((xorB v).toNat : Int) := u8_of _
    simp only [execOp, ho, ha.eval h, Op.unary, Op.intBits]
    first | (rw [← hx]; rfl) | (simp [IntKind.bits, IntKind.signed, IntKind.max, ← hx])⟩
/-- What a call of the law does with a server. -/
def PV.act (u : PV) (a : Ac) : PV :=
  if a.what = 0 then (u.reply a.id a.n a.data).1 else if a.what = 3 then (u.recv a.data).1 else if a.what = 5 then u.next.1 else if a.what = 6 then (u.take a.n).1 else u
structure LwB (B : Nat) (u : PV) (n : Nat) : Prop where
  J : PVJ u
  o : u.out.length + n ≤ B
  q : u.qu.length + n ≤ B
  qb : ∀ r ∈ u.qu, r.body.length ≤ 1024
theorem LwB.mono {B n m : Nat} {u : PV} (h : LwB B u n) (hm : m ≤ n) : LwB B u m := ⟨h.J, by have := h.o; omega, by have := h.q; omega, h.qb⟩
theorem LwB.close {B n : Nat} {u : PV} (h : LwB B u n) (id : Int) : LwB B (u.close id) n := by
  refine ⟨h.J.close id, ?_, ?_, fun r hr => ?_⟩ <;> rw [h.J.wo] at *
  · exact h.o
  · have h1 : (u.qu.filter (notId id)).length ≤ u.qu.length := List.length_filter_le ..
    have := h.q
    show (u.qu.filter (notId id)).length + n ≤ B
    omega
  · exact h.qb r (List.mem_filter.1 hr).1
theorem LwB.step {B n : Nat} {u : PV} {k : UInt8} {body : Bs} (h : LwB B u (n + (body.length + 6))) (hb : body.length ≤ 1024) : LwB B (u.step k body).1 n := by
  have hJ := h.J.step k body
  have ho := h.o
  have hq := h.q
  have hm := h.mono (m := n) (by omega)
  unfold PV.step at hJ ⊢
  split
  · rename_i h1
    split
    · exact hm
    · rename_i h3
      rw [if_pos h1, if_neg h3] at hJ
      split
      · rename_i h4
        rw [if_pos h4] at hJ
        refine ⟨hJ, ?_, hm.q, h.qb⟩
        show (u.out ++ _).length + n ≤ B
        rw [List.length_append, encF_len, List.length_append, bigB_len]
        have := h1.2
        simp only [List.length_cons, List.length_nil]
        omega
      · rename_i h4
        rw [if_neg h4] at hJ
        refine ⟨hJ, hm.o, ?_, fun r hr => ?_⟩
        · show (u.qu ++ _).length + n ≤ B
          simp; omega
        · rcases List.mem_append.1 hr with h5 | h5
          · exact h.qb r h5
          · rw [List.mem_singleton.1 h5]; show (body.drop 12).length ≤ _; simp; omega
  · split
    · split
      · exact hm
      · exact hm.close _
    · exact hm
theorem LwB.rcv {B : Nat} : ∀ (n : Nat) (q : PV) (bs : Bs), LwB B q bs.length → LwB B (rcvN PV.step n q bs).1 (rcvN PV.step n q bs).2.1.length ∧ ((rcvN PV.step n q bs).2.2.2 = 0 → (rcvN PV.step n q bs).2.2.1 = 0)
  | 0, q, bs, h => ⟨h, fun _ => rfl⟩
  | n + 1, q, bs, h => by
    cases hN : nxt bs with
    | wait => rw [rcv_wait hN]; exact ⟨h, fun _ => rfl⟩
    | bad e => rw [rcv_bad hN]; exact ⟨h, fun e => e⟩
    | got k body m =>
      obtain ⟨h1, h2, h3⟩ := nxt_got hN
      have h5 : LwB B q ((bs.drop m).length + (body.length + 6)) := by rw [show (bs.drop m).length + (body.length + 6) = bs.length from by simp; omega]; exact h
      by_cases h4 : body.length < 4
      · rw [rcv_short hN h4]; exact ⟨h5.mono (by dsimp only; omega), fun _ => rfl⟩
      · by_cases h6 : (q.step k body).2 = 0
        · rw [rcv_ok hN (by omega) h6]; exact LwB.rcv n _ _ (h5.step h3)
        · rw [rcv_no hN (by omega) h6]; exact ⟨h5.step h3, fun _ => rfl⟩
structure LwI (i : Nat) (u : PV) : Prop where
  b : LwB (1100 * i) u u.bs.length
  rb : u.br = 0 → u.rb = 0
theorem LwB.up {B C n : Nat} {u : PV} (h : LwB B u n) (hB : B ≤ C) : LwB C u n := ⟨h.J, by have := h.o; omega, by have := h.q; omega, h.qb⟩
theorem LwB.re {B n : Nat} {u u' : PV} (h : LwB B u n) (h1 : u'.opn = u.opn) (h2 : u'.qu = u.qu) (h3 : u'.last = u.last) (h4 : u'.out = u.out) : LwB B u' n := ⟨h.J.re h1 h2 h3, h4 ▸ h.o, h2 ▸ h.q, h2 ▸ h.qb⟩
theorem LwI.up {i : Nat} {u : PV} (h : LwI i u) : LwI (i + 1) u := ⟨h.b.up (by omega), h.rb⟩
theorem LwI.pvb {i : Nat} {u : PV} (h : LwI i u) (hi : i ≤ 41) : PVB u := by
  have h1 := h.b.o
  have h2 := h.b.q
  refine ⟨by omega, by omega, h.b.J.last, h.b.J.opn, by omega, fun j hj => ?_, h.rb⟩
  have := h.b.J.le j hj
  have := h.b.J.last
  omega
theorem LwI.recv {i : Nat} {u : PV} (h : LwI i u) (hi : i ≤ 40) {l : Bs} (hl : l.length ≤ 1100) : LwI (i + 1) (u.recv l).1 := by
  have h1 := h.b.o
  unfold PV.recv
  split
  · exact h.up
  · split
    · exact h.up
    · have h2 := LwB.rcv (B := 1100 * (i + 1)) (u.bs.length + l.length + 1) { u with bs := [] } (u.bs ++ l) ⟨h.b.J.re rfl rfl rfl, by rw [List.length_append]; have := h.b.o; show u.out.length + _ ≤ _; omega, by rw [List.length_append]; have := h.b.q; show u.qu.length + _ ≤ _; omega, h.b.qb⟩
      exact ⟨h2.1.re rfl rfl rfl rfl, fun e => h2.2 e⟩
theorem LwI.reply {i : Nat} {u : PV} (h : LwI i u) (id code : Int) (l : Bs) : LwI (i + 1) (u.reply id code l).1 := by
  unfold PV.reply
  (repeat' split) <;> try exact h.up
  rename_i h1 h2 h3 h4 h5
  have h6 := h.b.close id
  have hc := close_br u id
  have ho : (u.close id).out = u.out := by rw [h.b.J.wo]
  have hrb : (u.close id).rb = u.rb := by rw [h.b.J.wo]
  refine ⟨⟨h6.J.re rfl rfl rfl, ?_, ?_, h6.qb⟩, fun e => ?_⟩
  · show (u.out ++ _).length + (u.close id).bs.length ≤ _
    rw [List.length_append, encF_len, List.length_append, List.length_append, bigB_len, bigB_len, hc.2]
    have := h.b.o
    omega
  · show (u.close id).qu.length + (u.close id).bs.length ≤ _
    have := h6.q
    rw [hc.2]
    omega
  · show (u.close id).rb = 0
    rw [hrb]
    exact h.rb (hc.1 ▸ e)
theorem LwI.act {i : Nat} {u : PV} (h : LwI i u) (hi : i ≤ 40) {a : Ac} (hl : a.data.length ≤ 1100) : LwI (i + 1) (u.act a) := by
  unfold PV.act
  split
  · exact h.reply ..
  · split
    · exact h.recv hi hl
    · split
      · unfold PV.next
        split
        · exact h.up
        · rename_i r l he
          refine ⟨⟨⟨h.b.J.opn, h.b.J.nd, h.b.J.le, fun r hr => h.b.J.qo r (by rw [he]; exact List.mem_cons_of_mem _ hr), h.b.J.last⟩, h.up.b.o, ?_, fun r hr => h.b.qb r (by rw [he]; exact List.mem_cons_of_mem _ hr)⟩, h.rb⟩
          have := h.up.b.q
          rw [he, List.length_cons] at this
          show l.length + u.bs.length ≤ _
          omega
      · split
        · unfold PV.take
          split
          · exact h.up
          · refine ⟨⟨h.b.J.re rfl rfl rfl, ?_, h.up.b.q, h.b.qb⟩, h.rb⟩
            have := h.up.b.o
            show (u.out.drop _).length + u.bs.length ≤ _
            simp
            omega
        · exact h.up
end Go.Proofs.YtdelhikejgoffaaGreat
end
section
set_option linter.unusedVariables false
set_option maxRecDepth 20000
set_option maxHeartbeats 2000000
namespace Go.Proofs.YtdelhikejgoffaaGreat
structure Fr where
  k : UInt8
  b : Bs
def encA (L : List Fr) : Bs := L.flatMap fun f => encF f.k f.b
theorem encA_cons (f : Fr) (L : List Fr) : encA (f :: L) = encF f.k f.b ++ encA L := rfl
theorem encA_app (A B : List Fr) : encA (A ++ B) = encA A ++ encA B := List.flatMap_append
theorem encA_one (f : Fr) : encA [f] = encF f.k f.b := by simp [encA]
theorem encF_shape (k : UInt8) (b rest : Bs) : encF k b ++ rest = 197 :: k :: UInt8.ofNat (b.length / 256) :: UInt8.ofNat b.length :: (b ++ (twoB (sumB (innF k b)) ++ rest)) := by simp [encF, innF, twoB]
theorem u8_hi {n : Nat} (h : n < 65536) : (UInt8.ofNat (n / 256)).toNat * 256 + (UInt8.ofNat n).toNat = n := by rw [UInt8.toNat_ofNat', UInt8.toNat_ofNat']; omega
theorem nxt_enc (k : UInt8) (b rest : Bs) (hb : b.length ≤ 1024) : nxt (encF k b ++ rest) = .got k b (b.length + 6) := by
  have hs := encF_shape k b rest
  have hlen : (encF k b ++ rest).length = b.length + 6 + rest.length := by rw [List.length_append, encF_len]
  have hx0 : (encF k b ++ rest)[0]? = some 197 := by rw [hs]; rfl
  have hx2 : (encF k b ++ rest)[2]? = some (UInt8.ofNat (b.length / 256)) := by rw [hs]; rfl
  have hx3 : (encF k b ++ rest)[3]? = some (UInt8.ofNat b.length) := by rw [hs]; rfl
  have hl : lngB (encF k b ++ rest) = b.length := by rw [lngB_of hx2 hx3]; exact u8_hi (by omega)
  rw [nxt_five (by omega) hx0 rfl (by omega), hl, if_neg (by omega), if_neg (by omega)]
  have h1 : ((encF k b ++ rest).drop 1).take (3 + b.length) = innF k b := by
    rw [show (encF k b ++ rest).drop 1 = innF k b ++ (twoB (sumB (innF k b)) ++ rest) from by rw [hs]; simp [innF, twoB]]
    exact List.take_left' (by rw [innF_len]; omega)
  have h4 : (encF k b ++ rest).drop 4 = b ++ (twoB (sumB (innF k b)) ++ rest) := by rw [hs]; rfl
  have h2 : ((encF k b ++ rest).drop (4 + b.length)).take 2 = twoB (sumB (innF k b)) := by
    rw [← List.drop_drop, h4, List.drop_left]
    exact List.take_left' (by simp [twoB])
  rw [h1, h2, if_neg (by simp), h4, List.take_left]
  rw [hs]; rfl
theorem nxt_pre {k : UInt8} {b rest p q : Bs} (hp : p ++ q = encF k b ++ rest) (hlen : p.length < b.length + 6) (hb : b.length ≤ 1024) : nxt p = .wait := by
  have hs := encF_shape k b rest
  have hget : ∀ i, i < p.length → p[i]? = (encF k b ++ rest)[i]? := fun i hi => by rw [← hp, List.getElem?_append_left hi]
  by_cases h0 : p.length = 0
  · exact nxt_nil h0
  have hx0 : p[0]? = some 197 := by rw [hget 0 (by omega), hs]; rfl
  by_cases h4 : p.length < 4
  · exact nxt_four h0 hx0 rfl h4
  have hx2 : p[2]? = some (UInt8.ofNat (b.length / 256)) := by rw [hget 2 (by omega), hs]; rfl
  have hx3 : p[3]? = some (UInt8.ofNat b.length) := by rw [hget 3 (by omega), hs]; rfl
  have hl : lngB p = b.length := by rw [lngB_of hx2 hx3]; exact u8_hi (by omega)
  rw [nxt_five h0 hx0 rfl h4, hl, if_neg (by omega), if_pos (by omega)]
section
variable {Q : Type} (step : Q → UInt8 → Bs → Q × Int)
def runF (q : Q) (A : List Fr) : Q := A.foldl (fun q f => (step q f.k f.b).1) q
def okF : Q → List Fr → Prop
  | _, [] => True
  | q, f :: r => 4 ≤ f.b.length ∧ f.b.length ≤ 1024 ∧ (step q f.k f.b).2 = 0 ∧ okF (step q f.k f.b).1 r
theorem rcv_run : ∀ (n : Nat) (q : Q) (FS : List Fr) (bs rest : Bs), bs ++ rest = encA FS → okF step q FS → bs.length < n → ∃ A B bs', FS = A ++ B ∧ rcvN step n q bs = (runF step q A, bs', 0, 0) ∧ bs' ++ rest = encA B ∧ bs'.length + (encA A).length = bs.length
  | 0, _, _, _, _, _, _, h => absurd h (Nat.not_lt_zero _)
  | n + 1, q, [], bs, rest, he, _, _ => by
    have h0 : bs = [] := by have := congrArg List.length he; simp [encA] at this; exact this.1
    subst h0
    exact ⟨[], [], [], rfl, rcv_wait (nxt_nil rfl), he, rfl⟩
  | n + 1, q, f :: r, bs, rest, he, hok, hn => by
    obtain ⟨h4, h10, hs, hr⟩ := hok
    rw [encA_cons] at he
    by_cases hlt : bs.length < f.b.length + 6
    · exact ⟨[], f :: r, bs, rfl, rcv_wait (nxt_pre he hlt h10), by rw [encA_cons]; exact he, by simp [encA]⟩
    · have hel := encF_len f.k f.b
      have hbs : bs = encF f.k f.b ++ bs.drop (f.b.length + 6) := by
        have h1 := congrArg (List.take (f.b.length + 6)) he
        rw [List.take_append_of_le_length (by omega), List.take_left' (by omega)] at h1
        conv => lhs; rw [← List.take_append_drop (f.b.length + 6) bs]
        rw [h1]
      have he2 : bs.drop (f.b.length + 6) ++ rest = encA r := by
        rw [hbs, List.append_assoc] at he
        exact List.append_cancel_left he
      have hg : nxt bs = .got f.k f.b (f.b.length + 6) := by rw [hbs]; exact nxt_enc _ _ _ h10
      obtain ⟨A, B, bs', e1, e2, e3, e4⟩ := rcv_run n (step q f.k f.b).1 r (bs.drop (f.b.length + 6)) rest he2 hr (by rw [List.length_drop]; omega)
      refine ⟨f :: A, B, bs', by rw [e1]; rfl, ?_, e3, ?_⟩
      · rw [rcv_ok hg h4 hs, e2]; rfl
      · rw [encA_cons, List.length_append, hel]
        rw [List.length_drop] at e4
        omega
end
theorem val_big4 {n : Nat} (h : n < 4294967296) (r : Bs) : valB ((bigB n 4 ++ r).take 4) = n := by
  rw [List.take_left' (bigB_len n 4)]
  show valB [UInt8.ofNat (n / 16777216), UInt8.ofNat (n / 65536), UInt8.ofNat (n / 256), UInt8.ofNat (n / 1)] = n
  simp only [valB, List.foldl_cons, List.foldl_nil, UInt8.toNat_ofNat']
  omega
def reqF (id dl : Nat) (bd : Bs) : Fr := ⟨16, bigB id 4 ++ (bigB dl 8 ++ bd)⟩
def canF (id : Nat) : Fr := ⟨18, bigB id 4⟩
def repF (id code : Nat) (bd : Bs) : Fr := ⟨17, bigB id 4 ++ (bigB code 2 ++ bd)⟩
def idsC (cs : List Ca) (rs : List Res) : List Int := cs.map (fun c => (c.id : Int)) ++ rs.map (fun r => r.id)
def OkR (Dn : Nat → Bool) (Rp : Nat → Bs) (r : Res) : Prop := (r.code = 0 ∧ Dn r.id.toNat = true ∧ Rp r.id.toNat = r.body) ∨ (r.body = [] ∧ (r.code = 12 ∨ r.code = 14 ∨ r.code = 7))
structure CI (made : Nat) (R : Nat → Int) (Dn : Nat → Bool) (Rp : Nat → Bs) (cs : List Ca) (rs : List Res) : Prop where
  nd : (idsC cs rs).Nodup
  mem : ∀ i : Nat, ((i : Int) ∈ idsC cs rs ↔ 1 ≤ i ∧ i ≤ made ∧ R i = 0)
  pos : ∀ i ∈ idsC cs rs, 0 ≤ i
  ok : ∀ r ∈ rs, OkR Dn Rp r
  len : cs.length + rs.length ≤ made
  c32 : cs.length ≤ 32
  dl : ∀ c ∈ cs, c.dl ≤ 1000000
theorem flt_perm (q : Ca → Bool) : ∀ l : List Ca, (l.filter (nq q) ++ l.filter q).Perm l
  | [] => .refl _
  | c :: r => by
    by_cases h : q c = true
    · rw [List.filter_cons_of_pos h, List.filter_cons_of_neg (by simp [nq, h])]
      exact List.perm_middle.trans ((flt_perm q r).cons c)
    · rw [List.filter_cons_of_neg h, List.filter_cons_of_pos (by simp [nq, h])]
      exact (flt_perm q r).cons c
theorem ids_end (q : Ca → Bool) (code : Int) (body : Bs) (cs : List Ca) (rs : List Res) : (idsC (cs.filter (nq q)) (rs ++ (overC q code cs).map fun c => ⟨(c.id : Int), code, body⟩)).Perm (idsC cs rs) := by
  unfold idsC
  rw [List.map_append, List.map_map]
  have h1 : ((overC q code cs).map ((fun r : Res => r.id) ∘ fun c : Ca => (⟨(c.id : Int), code, body⟩ : Res))).Perm ((cs.filter q).map fun c => (c.id : Int)) := (overC_perm q code cs).map _
  refine (List.Perm.append_left _ (List.Perm.append_left _ h1)).trans ?_
  have h2 := (flt_perm q cs).map fun c => (c.id : Int)
  rw [List.map_append] at h2
  refine List.Perm.trans ?_ (h2.append_right _)
  rw [List.append_assoc]
  exact List.Perm.append_left _ List.perm_append_comm
theorem CI.endW {made : Nat} {R : Nat → Int} {Dn : Nat → Bool} {Rp : Nat → Bs} {cs : List Ca} {rs : List Res} (h : CI made R Dn Rp cs rs) {q : Ca → Bool} {code : Int} {body : Bs} (hc : ∀ c ∈ cs, q c = true → OkR Dn Rp ⟨(c.id : Int), code, body⟩) :
    CI made R Dn Rp (cs.filter (nq q)) (rs ++ (overC q code cs).map fun c => ⟨(c.id : Int), code, body⟩) := by
  have hp := ids_end q code body cs rs
  refine ⟨hp.nodup_iff.2 h.nd, fun i => by rw [hp.mem_iff]; exact h.mem i, fun i hi => h.pos i (hp.mem_iff.1 hi), fun r hr => ?_, ?_, Nat.le_trans (List.length_filter_le ..) h.c32, fun c hc => h.dl c (List.mem_filter.1 hc).1⟩
  · rcases List.mem_append.1 hr with h1 | h1
    · exact h.ok r h1
    · obtain ⟨c, h2, rfl⟩ := List.mem_map.1 h1
      have h3 := List.mem_filter.1 ((overC_perm q code cs).mem_iff.1 h2)
      exact hc c h3.1 h3.2
  · have h1 := flt_part q cs
    have h2 := (overC_perm q code cs).length_eq
    have h3 := h.len
    rw [List.length_append, List.length_map]
    omega
theorem CI.call {made : Nat} {R : Nat → Int} {Dn : Nat → Bool} {Rp : Nat → Bs} {cs : List Ca} {rs : List Res} (h : CI made R Dn Rp cs rs) (hR : R (made + 1) = 0) {dl : Nat} (hd : dl ≤ 1000000) (h32 : cs.length < 32) : CI (made + 1) R Dn Rp (cs ++ [⟨made + 1, dl⟩]) rs := by
  have hp : (idsC (cs ++ [⟨made + 1, dl⟩]) rs).Perm ((((made + 1 : Nat) : Int)) :: idsC cs rs) := by
    unfold idsC
    rw [List.map_append, List.append_assoc]
    exact List.perm_middle
  refine ⟨hp.nodup_iff.2 (List.nodup_cons.2 ⟨fun hm => ?_, h.nd⟩), fun i => ?_, fun i hi => ?_, h.ok, by have := h.len; simp; omega, by simp; omega, fun c hc => ?_⟩
  · have := (h.mem (made + 1)).1 hm; omega
  · rw [hp.mem_iff, List.mem_cons, h.mem i]
    constructor
    · rintro (e | ⟨e1, e2, e3⟩)
      · have : i = made + 1 := by omega
        subst this
        exact ⟨by omega, by omega, hR⟩
      · exact ⟨e1, by omega, e3⟩
    · rintro ⟨e1, e2, e3⟩
      by_cases e : i = made + 1
      · left; rw [e]
      · right; exact ⟨e1, by omega, e3⟩
  · rcases List.mem_cons.1 (hp.mem_iff.1 hi) with e | e
    · omega
    · exact h.pos i e
  · rcases List.mem_append.1 hc with e | e
    · exact h.dl c e
    · rw [List.mem_singleton.1 e]; exact hd
theorem CI.upd {made : Nat} {R : Nat → Int} {Dn Dn' : Nat → Bool} {Rp Rp' : Nat → Bs} {cs : List Ca} {rs : List Res} (h : CI made R Dn Rp cs rs) (hm : ∀ i, Dn i = true → Dn' i = true ∧ Rp' i = Rp i) : CI made R Dn' Rp' cs rs :=
  ⟨h.nd, h.mem, h.pos, fun r hr => (h.ok r hr).imp (fun ⟨a, b, c⟩ => ⟨a, (hm _ b).1, by rw [(hm _ b).2]; exact c⟩) id, h.len, h.c32, h.dl⟩
/-- A frame that a client may get. -/
def DnOk (made : Nat) (Dn : Nat → Bool) (Rp : Nat → Bs) (f : Fr) : Prop := ∃ id code bd, f = repF id code bd ∧ 0 < id ∧ id ≤ made ∧ bd.length ≤ 1018 ∧ ((code = 0 ∧ Dn id = true ∧ Rp id = bd) ∨ (code = 7 ∧ bd = []))
theorem DnOk.upd {made made' : Nat} {Dn Dn' : Nat → Bool} {Rp Rp' : Nat → Bs} {f : Fr} (h : DnOk made Dn Rp f) (hl : made ≤ made') (hm : ∀ i, Dn i = true → Dn' i = true ∧ Rp' i = Rp i) : DnOk made' Dn' Rp' f := by
  obtain ⟨id, code, bd, h1, h2, h3, h4, h5⟩ := h
  exact ⟨id, code, bd, h1, h2, by omega, h4, h5.imp (fun ⟨a, b, c⟩ => ⟨a, (hm _ b).1, by rw [(hm _ b).2]; exact c⟩) (fun e => e)⟩
/-- The frames on the way to a server that has seen 'last'. -/
def okU (fin : Nat) : Nat → List Fr → Prop
  | last, [] => last = fin
  | last, f :: r => (∃ dl bd, f = reqF (last + 1) dl bd ∧ bd.length ≤ 1012 ∧ okU fin (last + 1) r) ∨ (∃ id, f = canF id ∧ 0 < id ∧ id ≤ last ∧ okU fin last r)
theorem okU_le {fin : Nat} : ∀ (L : List Fr) (last : Nat), okU fin last L → last ≤ fin
  | [], _, h => Nat.le_of_eq h
  | f :: r, last, h => by
    rcases h with ⟨_, _, _, _, h⟩ | ⟨_, _, _, _, h⟩
    · have := okU_le r _ h; omega
    · exact okU_le r _ h
theorem okU_req {fin : Nat} {dl : Nat} {bd : Bs} (hb : bd.length ≤ 1012) : ∀ (L : List Fr) (last : Nat), okU fin last L → okU (fin + 1) last (L ++ [reqF (fin + 1) dl bd])
  | [], last, h => by have h : last = fin := h; subst h; exact .inl ⟨dl, bd, rfl, hb, rfl⟩
  | f :: r, last, h => by
    rcases h with ⟨a, b, c, d, h⟩ | ⟨a, b, c, d, h⟩
    · exact .inl ⟨a, b, c, d, okU_req hb r _ h⟩
    · exact .inr ⟨a, b, c, d, okU_req hb r _ h⟩
theorem okU_can {fin : Nat} {id : Nat} (h1 : 0 < id) (h2 : id ≤ fin) : ∀ (L : List Fr) (last : Nat), okU fin last L → okU fin last (L ++ [canF id])
  | [], last, h => by have h : last = fin := h; subst h; exact .inr ⟨id, rfl, h1, h2, rfl⟩
  | f :: r, last, h => by
    rcases h with ⟨a, b, c, d, h⟩ | ⟨a, b, c, d, h⟩
    · exact .inl ⟨a, b, c, d, okU_can h1 h2 r _ h⟩
    · exact .inr ⟨a, b, c, d, okU_can h1 h2 r _ h⟩
theorem cnlF_enc (W : List Ca) : cnlF W = encA (W.map fun c => canF c.id) := by unfold cnlF encA; rw [List.flatMap_map]; rfl
theorem okU_cans {fin last : Nat} : ∀ (W : List Ca) (L : List Fr), (∀ c ∈ W, 0 < c.id ∧ c.id ≤ fin) → okU fin last L → okU fin last (L ++ W.map fun c => canF c.id)
  | [], L, _, h => by simpa using h
  | c :: r, L, hW, h => by
    have h1 := hW c (List.mem_cons_self ..)
    have h2 := okU_cans r (L ++ [canF c.id]) (fun c hc => hW c (List.mem_cons_of_mem _ hc)) (okU_can h1.1 h1.2 L last h)
    simpa using h2
structure SvI (u : PV) : Prop where
  o32 : u.opn.length ≤ 32
  nd : u.opn.Nodup
  opn : ∀ i ∈ u.opn, 1 ≤ i ∧ i ≤ (u.last : Int)
  qu : ∀ r ∈ u.qu, 1 ≤ r.id ∧ r.id ≤ (u.last : Int)
  ql : u.qu.length ≤ u.last
theorem delI_nd {id : Int} : ∀ {l : List Int}, l.Nodup → (delI id l).Nodup ∧ id ∉ delI id l
  | [], _ => ⟨List.nodup_nil, by simp [delI]⟩
  | x :: r, h => by
    obtain ⟨h1, h2⟩ := List.nodup_cons.1 h
    unfold delI
    split
    · rename_i e; subst e; exact ⟨h2, h1⟩
    · rename_i e
      obtain ⟨g1, g2⟩ := delI_nd (id := id) h2
      exact ⟨List.nodup_cons.2 ⟨fun hm => h1 (delI_sub hm), g1⟩, fun hm => by rcases List.mem_cons.1 hm with e2 | e2; exact e e2; exact g2 e2⟩
theorem SvI.close {u : PV} (h : SvI u) (id : Int) : SvI (u.close id) ∧ (∀ i ∈ (u.close id).opn, i ∈ u.opn) ∧ id ∉ (u.close id).opn := by
  unfold PV.close
  split
  · have hd := delI_nd (id := id) h.nd
    refine ⟨⟨Nat.le_trans (delI_len ..) h.o32, hd.1, fun i hi => h.opn i (delI_sub hi), fun r hr => h.qu r (List.mem_filter.1 hr).1, ?_⟩, fun i hi => delI_sub hi, hd.2⟩
    have h2 : (u.qu.filter (notId id)).length ≤ u.qu.length := List.length_filter_le ..
    have := h.ql
    show (u.qu.filter (notId id)).length ≤ u.last
    omega
  · rename_i hn
    refine ⟨h, fun i hi => hi, fun hm => hn ?_⟩
    rw [List.any_eq_true]
    exact ⟨id, hm, decide_eq_true rfl⟩
theorem close_same (u : PV) (id : Int) : (u.close id).last = u.last ∧ (u.close id).out = u.out ∧ (u.close id).br = u.br ∧ (u.close id).rb = u.rb ∧ (u.close id).bs = u.bs := by unfold PV.close; split <;> exact ⟨rfl, rfl, rfl, rfl, rfl⟩
theorem runU {fin : Nat} (hfin : fin < 4294967296) : ∀ (A B : List Fr) (u : PV), okU fin u.last (A ++ B) → SvI u → okF PV.step u (A ++ B) ∧ okU fin (runF PV.step u A).last B ∧ SvI (runF PV.step u A) ∧ u.last ≤ (runF PV.step u A).last ∧ (runF PV.step u A).br = u.br ∧ (runF PV.step u A).rb = u.rb ∧
    (∀ i ∈ (runF PV.step u A).opn, i ∈ u.opn ∨ (u.last : Int) < i) ∧ ∃ D, (runF PV.step u A).out = u.out ++ encA D ∧ (∀ f ∈ D, ∃ id, f = repF id 7 [] ∧ 0 < id ∧ id ≤ fin) ∧ (encA D).length ≤ (encA A).length := by
  have key : ∀ (L : List Fr) (u : PV), okU fin u.last L → okF PV.step u L := by
    intro L
    induction L with
    | nil => intro u _; trivial
    | cons f r ih =>
      intro u h
      have hlf := okU_le _ _ h
      rcases h with ⟨dl, bd, rfl, hb, h⟩ | ⟨id, rfl, h1, h2, h⟩
      · have hlf2 := okU_le _ _ h
        have hlen : (reqF (u.last + 1) dl bd).b.length = 12 + bd.length := by simp [reqF, bigB_len]; omega
        have hv : valB ((reqF (u.last + 1) dl bd).b.take 4) = u.last + 1 := val_big4 (by omega) _
        have hs : (u.step 16 (reqF (u.last + 1) dl bd).b).2 = 0 ∧ (u.step 16 (reqF (u.last + 1) dl bd).b).1.last = u.last + 1 := by
          unfold PV.step
          rw [if_pos ⟨rfl, by omega⟩, hv, if_neg (fun e => e rfl)]
          split <;> exact ⟨rfl, rfl⟩
        exact ⟨by omega, by omega, hs.1, ih _ (by show okU fin (u.step 16 (reqF (u.last + 1) dl bd).b).1.last r; rw [hs.2]; exact h)⟩
      · have hlen : (canF id).b.length = 4 := bigB_len _ _
        have hv : valB ((canF id).b.take 4) = id := by have := val_big4 (n := id) (by omega) []; rwa [List.append_nil] at this
        have hs : (u.step 18 (canF id).b).2 = 0 ∧ (u.step 18 (canF id).b).1.last = u.last := by
          unfold PV.step
          rw [if_neg (fun e => absurd e.1 (by decide)), if_pos ⟨rfl, hlen⟩, hv, if_neg (fun e => e ⟨h1, h2⟩)]
          exact ⟨rfl, (close_same u _).1⟩
        exact ⟨by omega, by omega, hs.1, ih _ (by show okU fin (u.step 18 (canF id).b).1.last r; rw [hs.2]; exact h)⟩
  intro A
  induction A with
  | nil => exact fun B u h hs => ⟨key _ _ h, h, hs, Nat.le_refl _, rfl, rfl, fun i hi => .inl hi, [], by simp [runF, encA], (fun f hf => by cases hf), by simp [encA]⟩
  | cons f r ih =>
    intro B u h hs
    have hok := key _ _ h
    have hlf := okU_le _ _ h
    refine ⟨hok, ?_⟩
    show okU fin (runF PV.step (u.step f.k f.b).1 r).last B ∧ SvI (runF PV.step (u.step f.k f.b).1 r) ∧ u.last ≤ (runF PV.step (u.step f.k f.b).1 r).last ∧ (runF PV.step (u.step f.k f.b).1 r).br = u.br ∧ (runF PV.step (u.step f.k f.b).1 r).rb = u.rb ∧
      (∀ i ∈ (runF PV.step (u.step f.k f.b).1 r).opn, i ∈ u.opn ∨ (u.last : Int) < i) ∧ ∃ D, (runF PV.step (u.step f.k f.b).1 r).out = u.out ++ encA D ∧ (∀ f ∈ D, ∃ id, f = repF id 7 [] ∧ 0 < id ∧ id ≤ fin) ∧ (encA D).length ≤ (encA (f :: r)).length
    rw [encA_cons, List.length_append, encF_len]
    rcases h with ⟨dl, bd, rfl, hb, h⟩ | ⟨id, rfl, h1, h2, h⟩
    · have hlf2 := okU_le _ _ h
      have hlen : (reqF (u.last + 1) dl bd).b.length = 12 + bd.length := by simp [reqF, bigB_len]; omega
      have hv : valB ((reqF (u.last + 1) dl bd).b.take 4) = u.last + 1 := val_big4 (by omega) _
      by_cases hf : 32 ≤ u.opn.length
      · have hst : u.step 16 (reqF (u.last + 1) dl bd).b = ({ u with last := u.last + 1, out := u.out ++ encF 17 (bigB (u.last + 1) 4 ++ [0, 7]) }, 0) := by
          unfold PV.step
          rw [if_pos ⟨rfl, by omega⟩, hv, if_neg (fun e => e rfl), if_pos hf]
        rw [show (reqF (u.last + 1) dl bd).k = 16 from rfl, hst]
        obtain ⟨-, g1, g2, g3, g4, g5, g6, D, g7, g8, g9⟩ := ih B { u with last := u.last + 1, out := u.out ++ encF 17 (bigB (u.last + 1) 4 ++ [0, 7]) } h ⟨hs.o32, hs.nd, fun i hi => by have := hs.opn i hi; show 1 ≤ i ∧ i ≤ ((u.last + 1 : Nat) : Int); omega, fun r hr => by have := hs.qu r hr; show 1 ≤ r.id ∧ r.id ≤ ((u.last + 1 : Nat) : Int); omega, by have := hs.ql; show u.qu.length ≤ u.last + 1; omega⟩
        refine ⟨g1, g2, Nat.le_of_succ_le g3, g4, g5, fun i hi => ?_, repF (u.last + 1) 7 [] :: D, ?_, fun f hf9 => ?_, ?_⟩
        · rcases g6 i hi with e | e
          · exact .inl e
          · right; have e : ((u.last + 1 : Nat) : Int) < i := e; omega
        · rw [g7, encA_cons, ← List.append_assoc]
          congr 2
        · rcases List.mem_cons.1 hf9 with rfl | e
          · exact ⟨u.last + 1, rfl, by omega, by omega⟩
          · exact g8 f e
        · rw [encA_cons, List.length_append, encF_len]
          simp only [repF, List.length_append, bigB_len, List.length_nil]
          omega
      · have hst : u.step 16 (reqF (u.last + 1) dl bd).b = ({ u with last := u.last + 1, opn := u.opn ++ [((u.last + 1 : Nat) : Int)], qu := u.qu ++ [⟨((u.last + 1 : Nat) : Int), valB (((reqF (u.last + 1) dl bd).b.drop 4).take 8), (reqF (u.last + 1) dl bd).b.drop 12⟩] }, 0) := by
          unfold PV.step
          rw [if_pos ⟨rfl, by omega⟩, hv, if_neg (fun e => e rfl), if_neg hf]
        rw [show (reqF (u.last + 1) dl bd).k = 16 from rfl, hst]
        obtain ⟨-, g1, g2, g3, g4, g5, g6, D, g7, g8, g9⟩ := ih B { u with last := u.last + 1, opn := u.opn ++ [((u.last + 1 : Nat) : Int)], qu := u.qu ++ [⟨((u.last + 1 : Nat) : Int), valB (((reqF (u.last + 1) dl bd).b.drop 4).take 8), (reqF (u.last + 1) dl bd).b.drop 12⟩] } h
          ⟨by show (u.opn ++ _).length ≤ 32; simp; omega, List.nodup_append.2 ⟨hs.nd, by simp, fun a ha b hb e => by rw [List.mem_singleton.1 hb] at e; have := hs.opn a ha; omega⟩, fun i hi => by
            rcases List.mem_append.1 hi with e | e
            · have := hs.opn i e; show 1 ≤ i ∧ i ≤ ((u.last + 1 : Nat) : Int); omega
            · rw [List.mem_singleton.1 e]; show 1 ≤ ((u.last + 1 : Nat) : Int) ∧ ((u.last + 1 : Nat) : Int) ≤ ((u.last + 1 : Nat) : Int); omega, fun r hr => by
            rcases List.mem_append.1 hr with e | e
            · have := hs.qu r e; show 1 ≤ r.id ∧ r.id ≤ ((u.last + 1 : Nat) : Int); omega
            · rw [List.mem_singleton.1 e]; show 1 ≤ ((u.last + 1 : Nat) : Int) ∧ ((u.last + 1 : Nat) : Int) ≤ ((u.last + 1 : Nat) : Int); omega, by have := hs.ql; show (u.qu ++ _).length ≤ u.last + 1; simp; omega⟩
        refine ⟨g1, g2, Nat.le_of_succ_le g3, g4, g5, fun i hi => ?_, D, g7, g8, by omega⟩
        rcases g6 i hi with e | e
        · rcases List.mem_append.1 e with e | e
          · exact .inl e
          · right; rw [List.mem_singleton.1 e]; omega
        · right; have e : ((u.last + 1 : Nat) : Int) < i := e; omega
    · have hlen : (canF id).b.length = 4 := bigB_len _ _
      have hv : valB ((canF id).b.take 4) = id := by have := val_big4 (n := id) (by omega) []; rwa [List.append_nil] at this
      have hst : u.step 18 (canF id).b = (u.close (id : Int), 0) := by
        unfold PV.step
        rw [if_neg (fun e => absurd e.1 (by decide)), if_pos ⟨rfl, hlen⟩, hv, if_neg (fun e => e ⟨h1, h2⟩)]
      rw [show (canF id).k = 18 from rfl, hst]
      obtain ⟨c1, c2, c3, c4, c5⟩ := close_same u (id : Int)
      obtain ⟨s1, s2, s3⟩ := hs.close (id : Int)
      obtain ⟨-, g1, g2, g3, g4, g5, g6, D, g7, g8, g9⟩ := ih B (u.close (id : Int)) (by rw [c1]; exact h) s1
      rw [c1] at g3 g6
      exact ⟨g1, g2, g3, g4.trans c3, g5.trans c4, fun i hi => (g6 i hi).imp (s2 i) (fun e => e), D, by rw [g7, c2], g8, by omega⟩
end Go.Proofs.YtdelhikejgoffaaGreat
end
section
set_option linter.unusedVariables false
set_option maxRecDepth 20000
set_option maxHeartbeats 2000000
namespace Go.Proofs.YtdelhikejgoffaaGreat
def pcbB (x : PC) : Bool := decide (x.out.length ≤ 200000) && (decide (x.bs.length ≤ 65536) && (decide (x.last ≤ 1000000) && (decide (x.calls.length ≤ 32) && (decide (x.calls.length + x.res.length ≤ 100000) && (decide (x.now ≤ 18446744073709551615) && (x.calls.all (fun c => decide (c.dl ≤ 18446744073709551615) && decide (c.id ≤ 1000000)) && (decide (x.br ≠ 0) || decide (x.rb = 0))))))))
theorem PCB.of {x : PC} (h : pcbB x = true) : PCB x := by
  simp only [pcbB, Bool.and_eq_true, decide_eq_true_eq, List.all_eq_true, Bool.or_eq_true] at h
  obtain ⟨h1, h2, h3, h4, h5, h6, h7, h8⟩ := h
  exact ⟨h1, h2, h3, h4, h5, h6, fun c hc => (h7 c hc).1, fun c hc => (h7 c hc).2, fun e => h8.resolve_left (fun n => n e)⟩
def pvbB (x : PV) : Bool := decide (x.out.length ≤ 200000) && (decide (x.bs.length ≤ 65536) && (decide (x.last < 4294967296) && (decide (x.opn.length ≤ 32) && (decide (x.qu.length ≤ 200000) && (x.opn.all (fun i => decide (0 ≤ i) && decide (i < 4294967296)) && (decide (x.br ≠ 0) || decide (x.rb = 0)))))))
theorem PVB.of {x : PV} (h : pvbB x = true) : PVB x := by
  simp only [pvbB, Bool.and_eq_true, decide_eq_true_eq, List.all_eq_true, Bool.or_eq_true] at h
  obtain ⟨h1, h2, h3, h4, h5, h6, h8⟩ := h
  exact ⟨h1, h2, h3, h4, h5, h6, fun e => h8.resolve_left (fun n => n e)⟩
theorem pc0b : PCB pc0 := PCB.of (by kernel_rfl)
theorem pv0b : PVB pv0 := PVB.of (by kernel_rfl)
theorem RdB.cst (b : Nat) (l : Bs) {fr : Nat × Nat} : RdB (some ⟨b, 0, none⟩) ⟨some b, .cells (List.toArray (bvs l)) 5 fr⟩ l := fun _ => ⟨b, 0, _, _, fr, rfl, rfl, fun j v hj => by rw [Nat.zero_add]; exact hj⟩
theorem kf1 : (pc0.call [97, 98] 10).2 = (1, 0) := by kernel_rfl
def kc1 : PC := (pc0.call [97, 98] 10).1
theorem kc1b : PCB kc1 := PCB.of (by kernel_rfl)
theorem kf2 : (kc1.call [] 5).2 = (2, 0) := by kernel_rfl
def kc2 : PC := (kc1.call [] 5).1
theorem kc2b : PCB kc2 := PCB.of (by kernel_rfl)
theorem kf3 : (kc2.call [120] 0).2 = (0, 2) := by kernel_rfl
def kc3 : PC := (kc2.call [120] 0).1
theorem kc3b : PCB kc3 := PCB.of (by kernel_rfl)
theorem kf4 : (pv0.recv (kc3.out.take 65536)).2 = 0 := by kernel_rfl
def ks1 : PV := (pv0.recv (kc3.out.take 65536)).1
theorem ks1b : PVB ks1 := PVB.of (by kernel_rfl)
def kc4 : PC := { kc3 with out := kc3.out.drop 65536 }
theorem kc4b : PCB kc4 := PCB.of (by kernel_rfl)
theorem kf5 : ks1.asks 1 10 [97, 98] = true := by kernel_rfl
def ks2 : PV := ks1.next.1
theorem ks2b : PVB ks2 := PVB.of (by kernel_rfl)
theorem kf6 : ks2.asks 2 5 [] = true := by kernel_rfl
def ks3 : PV := ks2.next.1
theorem ks3b : PVB ks3 := PVB.of (by kernel_rfl)
theorem kf7 : (ks3.reply 1 0 [121, 101, 115]).2 = 0 := by kernel_rfl
def ks4 : PV := (ks3.reply 1 0 [121, 101, 115]).1
theorem ks4b : PVB ks4 := PVB.of (by kernel_rfl)
theorem kf8 : (kc4.recv (ks4.out.take 65536)).2 = 0 := by kernel_rfl
def kc5 : PC := (kc4.recv (ks4.out.take 65536)).1
theorem kc5b : PCB kc5 := PCB.of (by kernel_rfl)
def ks5 : PV := { ks4 with out := ks4.out.drop 65536 }
theorem ks5b : PVB ks5 := PVB.of (by kernel_rfl)
theorem kf9 : kc5.ends 1 0 [121, 101, 115] = true := by kernel_rfl
theorem kf10 : kc5.res.all (fun r => decide (r.body.length ≤ 1000000)) = true := by kernel_rfl
def kc6 : PC := kc5.next.1
theorem kc6b : PCB kc6 := PCB.of (by kernel_rfl)
theorem kf11 : (ks5.reply 1 0 [110, 111]).2 = 9 := by kernel_rfl
def ks6 : PV := (ks5.reply 1 0 [110, 111]).1
theorem ks6b : PVB ks6 := PVB.of (by kernel_rfl)
theorem kf12 : (kc6.advance 5).2 = 0 := by kernel_rfl
def kc7 : PC := (kc6.advance 5).1
theorem kc7b : PCB kc7 := PCB.of (by kernel_rfl)
theorem kf13 : kc7.ends 2 12 [] = true := by kernel_rfl
theorem kf14 : kc7.res.all (fun r => decide (r.body.length ≤ 1000000)) = true := by kernel_rfl
def kc8 : PC := kc7.next.1
theorem kc8b : PCB kc8 := PCB.of (by kernel_rfl)
theorem kf15 : (ks6.recv (kc8.out.take 65536)).2 = 0 := by kernel_rfl
def ks7 : PV := (ks6.recv (kc8.out.take 65536)).1
theorem ks7b : PVB ks7 := PVB.of (by kernel_rfl)
def kc9 : PC := { kc8 with out := kc8.out.drop 65536 }
theorem kc9b : PCB kc9 := PCB.of (by kernel_rfl)
theorem kf16 : ks7.opn = [] := by kernel_rfl
theorem kf17 : (ks7.reply 2 0 []).2 = 9 := by kernel_rfl
def ks8 : PV := (ks7.reply 2 0 []).1
theorem ks8b : PVB ks8 := PVB.of (by kernel_rfl)
theorem kf18 : (kc9.call [122] 9).2 = (3, 0) := by kernel_rfl
def kc10 : PC := (kc9.call [122] 9).1
theorem kc10b : PCB kc10 := PCB.of (by kernel_rfl)
theorem kf19 : (ks8.recv (kc10.out.take 65536)).2 = 0 := by kernel_rfl
def ks9 : PV := (ks8.recv (kc10.out.take 65536)).1
theorem ks9b : PVB ks9 := PVB.of (by kernel_rfl)
def kc11 : PC := { kc10 with out := kc10.out.drop 65536 }
theorem kc11b : PCB kc11 := PCB.of (by kernel_rfl)
theorem kf20 : (kc11.cancel 3).2 = 0 := by kernel_rfl
def kc12 : PC := (kc11.cancel 3).1
theorem kc12b : PCB kc12 := PCB.of (by kernel_rfl)
theorem kf21 : (ks9.recv (kc12.out.take 65536)).2 = 0 := by kernel_rfl
def ks10 : PV := (ks9.recv (kc12.out.take 65536)).1
theorem ks10b : PVB ks10 := PVB.of (by kernel_rfl)
def kc13 : PC := { kc12 with out := kc12.out.drop 65536 }
theorem kc13b : PCB kc13 := PCB.of (by kernel_rfl)
theorem kf22 : (kc13.cancel 3).2 = 9 := by kernel_rfl
def kc14 : PC := (kc13.cancel 3).1
theorem kc14b : PCB kc14 := PCB.of (by kernel_rfl)
theorem kf23 : kc14.ends 3 14 [] = true := by kernel_rfl
theorem kf24 : kc14.res.all (fun r => decide (r.body.length ≤ 1000000)) = true := by kernel_rfl
def kc15 : PC := kc14.next.1
theorem kf25 : ks10.qu = [] := by kernel_rfl
end Go.Proofs.YtdelhikejgoffaaGreat
end
section
set_option linter.unusedVariables false
set_option maxRecDepth 20000
set_option maxHeartbeats 2000000
namespace Go.Proofs.YtdelhikejgoffaaGreat
def updB (D : Nat → Bool) (i : Nat) : Nat → Bool := fun j => if j = i then true else D j
def updP (P : Nat → Bs) (i : Nat) (b : Bs) : Nat → Bs := fun j => if j = i then b else P j
structure HI (n : Nat) (v : PC) (u : PV) (made now : Nat) (R : Nat → Int) (Dn : Nat → Bool) (Rp : Nat → Bs) (T : List Int) : Prop where
  vbr : v.br = 0
  vrb : v.rb = 0
  vlast : v.last = made
  vnow : v.now = now
  ubr : u.br = 0
  urb : u.rb = 0
  si : SvI u
  fu : ∃ FU, u.bs ++ v.out = encA FU ∧ okU made u.last FU
  fd : ∃ FD, v.bs ++ u.out = encA FD ∧ ∀ f ∈ FD, DnOk made Dn Rp f
  ci : CI made R Dn Rp v.calls v.res
  mn : made ≤ n
  nn : now ≤ 600 * n
  sz : v.out.length + u.bs.length + u.out.length + v.bs.length ≤ 700 * n
  r0 : ∀ i, made < i → R i = 0
  r01 : ∀ i, R i = 0 ∨ R i = 1
  dn : ∀ i : Nat, Dn i = true → i ≤ u.last ∧ (i : Int) ∉ u.opn
  tk : ∀ t ∈ T, 1 ≤ t ∧ t ≤ (u.last : Int)
section
variable {n : Nat} {v : PC} {u : PV} {made now : Nat} {R : Nat → Int} {Dn : Nat → Bool} {Rp : Nat → Bs} {T : List Int}
theorem HI.ul (h : HI n v u made now R Dn Rp T) : u.last ≤ made := by obtain ⟨FU, _, h2⟩ := h.fu; exact okU_le _ _ h2
theorem HI.mono (h : HI n v u made now R Dn Rp T) : HI (n + 1) v u made now R Dn Rp T :=
  ⟨h.vbr, h.vrb, h.vlast, h.vnow, h.ubr, h.urb, h.si, h.fu, h.fd, h.ci, Nat.le_succ_of_le h.mn, by have := h.nn; omega, by have := h.sz; omega, h.r0, h.r01, h.dn, h.tk⟩
theorem HI.pvb (h : HI n v u made now R Dn Rp T) (hn : n ≤ 41) : PVB u := by
  have h1 := h.sz
  have h2 := h.mn
  have h3 := h.ul
  have h4 := h.si.ql
  exact ⟨by omega, by omega, by omega, h.si.o32, by omega, fun i hi => by have := h.si.opn i hi; omega, fun _ => h.urb⟩
theorem HI.call (h : HI n v u made now R Dn Rp T) (hc : v.closed = false) (hn : n < 41) {bd : Bs} (hb : bd.length ≤ 600) {m : Nat} (hm : m ≤ 600) :
    ((v.call bd (now + m + 1)).2 = (((made + 1 : Nat) : Int), 0) ∧ (v.call bd (now + m + 1)).1.closed = false ∧ HI (n + 1) (v.call bd (now + m + 1)).1 u (made + 1) now R Dn Rp T) ∨ ((v.call bd (now + m + 1)).2 = (0, 7) ∧ (v.call bd (now + m + 1)).1 = v) := by
  have h1 := h.sz
  have h2 := h.nn
  unfold PC.call
  rw [if_neg (by rw [h.vnow]; omega), if_neg (by rw [hc, h.vbr]; simp), if_neg (by omega)]
  by_cases hf : 32 ≤ v.calls.length ∨ 65536 < v.out.length
  · rw [if_pos hf]; exact .inr ⟨rfl, rfl⟩
  · rw [if_neg hf]
    left
    obtain ⟨FU, f1, f2⟩ := h.fu
    obtain ⟨FD, g1, g2⟩ := h.fd
    refine ⟨by rw [h.vlast], hc, ⟨h.vbr, h.vrb, by show v.last + 1 = made + 1; rw [h.vlast], h.vnow, h.ubr, h.urb, h.si, ⟨FU ++ [reqF (made + 1) (now + m + 1) bd], ?_, okU_req (by omega) _ _ f2⟩, ⟨FD, g1, fun f hf => (g2 f hf).upd (Nat.le_succ _) fun i hi => ⟨hi, rfl⟩⟩, ?_, by have := h.mn; omega, by omega, ?_, fun i hi => h.r0 i (by omega), h.r01, h.dn, h.tk⟩⟩
    · show u.bs ++ (v.out ++ encF 16 (bigB (v.last + 1) 4 ++ (bigB (now + m + 1) 8 ++ bd))) = _
      rw [← List.append_assoc, f1, encA_app, encA_one, h.vlast]; rfl
    · show CI (made + 1) R Dn Rp (v.calls ++ [⟨v.last + 1, now + m + 1⟩]) v.res
      rw [h.vlast]
      exact h.ci.call (h.r0 _ (Nat.lt_succ_self _)) (by omega) (by omega)
    · show (v.out ++ encF 16 (bigB (v.last + 1) 4 ++ (bigB (now + m + 1) 8 ++ bd))).length + u.bs.length + u.out.length + v.bs.length ≤ 700 * (n + 1)
      rw [List.length_append, encF_len, List.length_append, List.length_append, bigB_len, bigB_len]
      omega
theorem HI.endc (h : HI n v u made now R Dn Rp T) (q : Ca → Bool) (code : Int) (hcode : code = 12 ∨ code = 14) (now2 : Nat) (hnow2 : now2 ≤ 600 * (n + 1)) :
    HI (n + 1) { ({ v with now := now2 } : PC).endW q code [] with out := v.out ++ cnlF (overC q code v.calls) } u made now2 R Dn Rp T := by
  obtain ⟨FU, f1, f2⟩ := h.fu
  have h1 := h.sz
  have h32 := h.ci.c32
  have hlen := overC_len q code v.calls
  refine ⟨h.vbr, h.vrb, h.vlast, rfl, h.ubr, h.urb, h.si, ⟨FU ++ (overC q code v.calls).map fun c => canF c.id, ?_, okU_cans _ _ (fun c hc => ?_) f2⟩, h.fd, h.ci.endW fun c _ _ => .inr ⟨rfl, hcode.imp id .inl⟩, by have := h.mn; omega, hnow2, ?_, h.r0, h.r01, h.dn, h.tk⟩
  · show u.bs ++ (v.out ++ cnlF _) = _
    rw [← List.append_assoc, f1, encA_app, cnlF_enc]
  · have h5 := (h.ci.mem c.id).1 (List.mem_append_left _ (List.mem_map_of_mem (overC_mem hc)))
    omega
  · show (v.out ++ cnlF (overC q code v.calls)).length + _ + _ + _ ≤ _
    rw [List.length_append, cnlF_len]
    show _ + _ + _ + v.bs.length ≤ _
    omega
theorem HI.cancel (h : HI n v u made now R Dn Rp T) (id : Int) : (v.cancel id).1.closed = v.closed ∧ HI (n + 1) (v.cancel id).1 u made now R Dn Rp T := by
  unfold PC.cancel
  split
  · exact ⟨rfl, h.mono⟩
  · split
    · exact ⟨rfl, h.mono⟩
    · split
      · exact ⟨rfl, h.mono⟩
      · refine ⟨rfl, ?_⟩
        have h9 := h.endc (isId id) 14 (.inr rfl) now (by have := h.nn; omega)
        have e : ({ v with now := now } : PC) = v := by rw [← h.vnow]
        rw [e] at h9
        exact h9
theorem HI.next (h : HI n v u made now R Dn Rp T) {r : Rr} {rest : List Rr} (he : u.qu = r :: rest) : 1 ≤ r.id ∧ r.id ≤ made ∧ HI (n + 1) v { u with qu := rest } made now R Dn Rp (T ++ [r.id]) := by
  have h1 := h.si.qu r (by rw [he]; exact List.mem_cons_self ..)
  have h2 := h.ul
  have h3 := h.mono
  refine ⟨h1.1, by omega, ⟨h3.vbr, h3.vrb, h3.vlast, h3.vnow, h3.ubr, h3.urb, ⟨h.si.o32, h.si.nd, h.si.opn, fun x hx => h.si.qu x (by rw [he]; exact List.mem_cons_of_mem _ hx), by have := h.si.ql; rw [he, List.length_cons] at this; show rest.length ≤ u.last; omega⟩, h3.fu, h3.fd, h3.ci, h3.mn, h3.nn, h3.sz, h3.r0, h3.r01, h3.dn, fun t ht => ?_⟩⟩
  rcases List.mem_append.1 ht with e | e
  · exact h.tk t e
  · rw [List.mem_singleton.1 e]; exact h1
theorem HI.reply (h : HI n v u made now R Dn Rp T) (hn : n < 41) {id : Int} (hid : id ∈ T) {bd : Bs} (hb : bd.length ≤ 600) :
    ((u.reply id 0 bd).2 = 0 ∧ Dn id.toNat = false ∧ HI (n + 1) v (u.reply id 0 bd).1 made now R (updB Dn id.toNat) (updP Rp id.toNat bd) T) ∨ ((u.reply id 0 bd).2 = 9 ∧ (u.reply id 0 bd).1 = u) := by
  have h1 := h.sz
  have h2 := h.tk id hid
  have h3 := h.ul
  unfold PV.reply
  rw [if_neg (by omega), if_neg (by rw [h.ubr]; simp), if_neg (by omega)]
  by_cases ho : u.opn.any (eqI id) = false
  · rw [if_pos ho]; exact .inr ⟨rfl, rfl⟩
  · rw [if_neg ho, if_neg (by omega)]
    left
    obtain ⟨i, rfl⟩ : ∃ i : Nat, id = i := ⟨id.toNat, by omega⟩
    rw [Int.toNat_natCast]
    have hmem : (i : Int) ∈ u.opn := by
      have ho2 : u.opn.any (eqI (i : Int)) = true := by simpa using ho
      obtain ⟨x, hx, hx2⟩ := List.any_eq_true.1 ho2
      have : (i : Int) = x := of_decide_eq_true hx2
      rw [this]; exact hx
    have hdn : Dn i = false := by
      cases hd : Dn i with
      | false => rfl
      | true => exact absurd hmem (h.dn i hd).2
    have hup : ∀ j, Dn j = true → updB Dn i j = true ∧ updP Rp i bd j = Rp j := fun j hj => by
      have hne : ¬ j = i := fun e => by rw [e, hdn] at hj; cases hj
      unfold updB updP
      rw [if_neg hne, if_neg hne]; exact ⟨hj, rfl⟩
    obtain ⟨c1, c2, c3, c4, c5⟩ := close_same u (i : Int)
    obtain ⟨s1, s2, s3⟩ := h.si.close (i : Int)
    obtain ⟨FU, f1, f2⟩ := h.fu
    obtain ⟨FD, g1, g2⟩ := h.fd
    refine ⟨rfl, hdn, ⟨h.vbr, h.vrb, h.vlast, h.vnow, c3.trans h.ubr, c4.trans h.urb, ⟨s1.o32, s1.nd, s1.opn, s1.qu, s1.ql⟩, ⟨FU, by rw [show (({ u.close (i : Int) with out := u.out ++ encF 17 (bigB i 4 ++ (bigB (0 : Int).toNat 2 ++ bd)) } : PV)).bs = u.bs from c5]; exact f1, by show okU made (u.close (i : Int)).last FU; rw [c1]; exact f2⟩, ⟨FD ++ [repF i 0 bd], ?_, fun f hf => ?_⟩, h.ci.upd hup, by have := h.mn; omega, by have := h.nn; omega, ?_, h.r0, h.r01, fun j hj => ?_, fun t ht => by have := h.tk t ht; show 1 ≤ t ∧ t ≤ ((u.close (i : Int)).last : Int); rw [c1]; exact this⟩⟩
    · show v.bs ++ (u.out ++ encF 17 (bigB i 4 ++ (bigB 0 2 ++ bd))) = _
      rw [← List.append_assoc, g1, encA_app, encA_one]; rfl
    · rcases List.mem_append.1 hf with e | e
      · exact (g2 f e).upd (Nat.le_refl _) hup
      · rw [List.mem_singleton.1 e]
        exact ⟨i, 0, bd, rfl, by omega, by omega, by omega, .inl ⟨rfl, by unfold updB; rw [if_pos rfl], by unfold updP; rw [if_pos rfl]⟩⟩
    · show _ + (u.close (i : Int)).bs.length + (u.out ++ encF 17 (bigB i 4 ++ (bigB 0 2 ++ bd))).length + _ ≤ _
      rw [c5, List.length_append, encF_len, List.length_append, List.length_append, bigB_len, bigB_len]
      omega
    · show j ≤ (u.close (i : Int)).last ∧ (j : Int) ∉ (u.close (i : Int)).opn
      rw [c1]
      by_cases e : j = i
      · subst e; exact ⟨by omega, s3⟩
      · have hj2 : Dn j = true := by unfold updB at hj; rw [if_neg e] at hj; exact hj
        exact ⟨(h.dn j hj2).1, fun hm => (h.dn j hj2).2 (s2 _ hm)⟩
theorem HI.up (h : HI n v u made now R Dn Rp T) (hn : n < 41) (m : Nat) : (u.recv (v.out.take m)).2 = 0 ∧ HI (n + 1) { v with out := v.out.drop m } (u.recv (v.out.take m)).1 made now R Dn Rp T := by
  have h1 := h.sz
  have hmn := h.mn
  obtain ⟨FU, f1, f2⟩ := h.fu
  have htl : (v.out.take m).length ≤ v.out.length := by rw [List.length_take]; omega
  have htd : (v.out.take m).length + (v.out.drop m).length = v.out.length := by rw [List.length_take, List.length_drop]; omega
  have hs0 : SvI { u with bs := [] } := ⟨h.si.o32, h.si.nd, h.si.opn, h.si.qu, h.si.ql⟩
  have hbs : (u.bs ++ v.out.take m) ++ v.out.drop m = encA FU := by rw [List.append_assoc, List.take_append_drop]; exact f1
  have hok0 := (runU (fin := made) (by omega) [] FU { u with bs := [] } f2 hs0).1
  obtain ⟨A, B, bs', e1, e2, e3, e4⟩ := rcv_run PV.step (u.bs.length + (v.out.take m).length + 1) { u with bs := [] } FU (u.bs ++ v.out.take m) (v.out.drop m) hbs hok0 (by rw [List.length_append]; omega)
  subst e1
  obtain ⟨-, g1, g2, g3, g4, g5, g6, D, g7, g8, g9⟩ := runU (fin := made) (by omega) A B { u with bs := [] } f2 hs0
  have hrec : u.recv (v.out.take m) = ({ runF PV.step { u with bs := [] } A with bs := bs', rb := 0, br := 0 }, 0) := by
    unfold PV.recv
    rw [if_neg (by rw [h.ubr]; simp), if_neg (by omega)]
    simp only [e2]
  rw [hrec]
  obtain ⟨FD, k1, k2⟩ := h.fd
  rw [List.length_append] at e4
  refine ⟨rfl, ⟨h.vbr, h.vrb, h.vlast, h.vnow, rfl, rfl, ⟨g2.o32, g2.nd, g2.opn, g2.qu, g2.ql⟩, ⟨B, e3, g1⟩, ⟨FD ++ D, ?_, fun f hf => ?_⟩, h.ci, by omega, by have := h.nn; omega, ?_, h.r0, h.r01, fun i hi => ?_, fun t ht => ?_⟩⟩
  · show v.bs ++ (runF PV.step { u with bs := [] } A).out = _
    rw [g7, ← List.append_assoc, k1, encA_app]
  · rcases List.mem_append.1 hf with e | e
    · exact k2 f e
    · obtain ⟨id, rfl, i1, i2⟩ := g8 f e
      exact ⟨id, 7, [], rfl, i1, i2, by simp, .inr ⟨rfl, rfl⟩⟩
  · show (v.out.drop m).length + bs'.length + (runF PV.step { u with bs := [] } A).out.length + v.bs.length ≤ _
    rw [g7, List.length_append]
    show _ + _ + (u.out.length + _) + _ ≤ _
    omega
  · obtain ⟨d1, d2⟩ := h.dn i hi
    have g3 : u.last ≤ _ := g3
    refine ⟨Nat.le_trans d1 g3, fun hm => ?_⟩
    rcases g6 _ hm with e | e
    · exact d2 e
    · have e : (u.last : Int) < i := e; omega
  · have := h.tk t ht
    have g3 : u.last ≤ (runF PV.step { u with bs := [] } A).last := g3
    show 1 ≤ t ∧ t ≤ ((runF PV.step { u with bs := [] } A).last : Int)
    omega
theorem HI.close (h : HI n v u made now R Dn Rp T) (hc : v.closed = false) : v.close.2 = 0 ∧ v.close.1.calls = [] ∧ HI (n + 1) v.close.1 u made now R Dn Rp T := by
  unfold PC.close
  rw [if_neg (by rw [hc, h.vbr]; simp)]
  have h3 := h.mono
  refine ⟨rfl, ?_, ⟨h3.vbr, h3.vrb, h3.vlast, h3.vnow, h3.ubr, h3.urb, h3.si, h3.fu, h3.fd, h.ci.endW fun c _ _ => .inr ⟨rfl, .inr (.inl rfl)⟩, h3.mn, h3.nn, h3.sz, h3.r0, h3.r01, h3.dn, h3.tk⟩⟩
  show v.calls.filter (nq allQ) = []
  exact List.filter_eq_nil_iff.2 fun c _ => by simp [nq, allQ]
theorem HI.fin (h : HI n v u made now R Dn Rp T) (hc : v.calls = []) (hr : v.res = []) {i : Nat} (h1 : 1 ≤ i) (h2 : i ≤ made) : R i = 1 := by
  rcases h.r01 i with e | e
  · have := (h.ci.mem i).2 ⟨h1, h2, e⟩
    rw [hc, hr] at this
    cases this
  · exact e
end
end Go.Proofs.YtdelhikejgoffaaGreat
end
section
set_option linter.unusedVariables false
set_option maxRecDepth 20000
set_option maxHeartbeats 2000000
namespace Go.Proofs.YtdelhikejgoffaaGreat
theorem mem_out {DH : Heap} {e : Ent} (h : e ∈ DH) : ∃ G, DH.Perm (e :: G) := by
  obtain ⟨a, b, rfl⟩ := List.append_of_mem h
  exact ⟨a ++ b, List.perm_middle⟩
end Go.Proofs.YtdelhikejgoffaaGreat
end
section
set_option linter.unusedVariables false
set_option maxRecDepth 20000
set_option maxHeartbeats 1000000
namespace Go.Proofs.YtdelhikejgoffaaGreat
theorem Spec.mem {P : Program} {f : FuncId} {av : List Value} {A M : Heap} {ent : Ent} {R : Value → Heap → Prop} (hs : Spec P f av (A ++ [ent]) (fun r H' => ∃ B, R r B ∧ H' = B ++ [ent])) (hm : ent ∈ M) : Spec P f av (A ++ M) (fun r H' => ∃ B, R r B ∧ H' = B ++ M) := by
  obtain ⟨G, hG⟩ := mem_out hm
  have hp : (A ++ M).Perm ((A ++ [ent]) ++ G) := by
    rw [List.append_assoc]; exact hG.append_left A
  refine ⟨hs.enters, fun w hw => ?_⟩
  have h1 := (((HW.start hw).perm hp).left).hok
  refine (hs.calls w h1).mono fun e w' ⟨r, H', e1, ⟨B, e2, e3⟩, e4⟩ => ⟨r, B ++ M, e1, ⟨B, e2, rfl⟩, ?_⟩
  subst e3
  refine (HW.frame (HW.start hw) hp e4).perm ?_
  rw [List.append_assoc]; exact hG.symm.append_left B
theorem sm_reply {g : SG} {p : Nat} {v : PV} (hg : SGd g p v) (hb : PVB v) (id code : Int) {M : Heap} {body : Bs} {oa : Option Addr} {c : Nat} (hr : RdM encY M oa body) (hbl : body.length ≤ 1000000) : Spec Tryz.prog 16 [ptrC p, .int .i64 id, .int .i64 code, .slice oa body.length c] (sH g ++ M) (fun r H' => ∃ g', SGd g' p (v.reply id code body).1 ∧ r = .int .i64 (v.reply id code body).2 ∧ H' = sH g' ++ M) := by
  obtain ⟨ent, hm, hrb⟩ := hr.b
  have h1 : Spec Tryz.prog 16 [ptrC p, .int .i64 id, .int .i64 code, .slice oa body.length c] (sH g ++ [ent]) (fun r H' => ∃ B, (∃ g', SGd g' p (v.reply id code body).1 ∧ r = .int .i64 (v.reply id code body).2 ∧ B = sH g') ∧ H' = B ++ [ent]) :=
    (s_reply hg hb id code hrb hbl).mono fun r H' ⟨g', e1, e2, e3⟩ => ⟨sH g', ⟨g', e1, e2, rfl⟩, e3⟩
  exact (h1.mem hm).mono fun r H' ⟨B, ⟨g', e1, e2, e3⟩, e4⟩ => ⟨g', e1, e2, by rw [e4, e3]⟩
theorem LwI.nextX {i : Nat} {u : PV} (h : LwI i u) {r : Rr} {l : List Rr} (he : u.qu = r :: l) : LwI i { u with qu := l } := by
  refine ⟨⟨⟨h.b.J.opn, h.b.J.nd, h.b.J.le, fun r hr => h.b.J.qo r (by rw [he]; exact List.mem_cons_of_mem _ hr), h.b.J.last⟩, h.b.o, ?_, fun r hr => h.b.qb r (by rw [he]; exact List.mem_cons_of_mem _ hr)⟩, h.rb⟩
  have := h.b.q
  rw [he, List.length_cons] at this
  show l.length + u.bs.length ≤ _
  omega
theorem LwI.pvi {i : Nat} {u : PV} (h : LwI i u) (hi : i ≤ 41) {n : Nat} (hn : n ≤ 1100) : PVI (u.bs.length + n) u := by
  have h1 := h.b.o
  have h2 := h.b.q
  refine ⟨h.b.J.opn, by omega, h.b.J.last, by omega, fun j hj => ?_⟩
  have := h.b.J.le j hj
  have := h.b.J.last
  omega
theorem SvR.next {M : Heap} {m : SvV} {u : PV} (h : SvR M m u) {w : Rw} {rest : List Rw} (hq : m.Q = w :: rest) : u.qu = w.v :: rest.map Rw.v ∧ SvR M { m with a2 := dropA m.a2 m.c2 1 3, c2 := m.c2 - 1, Q := m.Q.drop 1 } { u with qu := rest.map Rw.v } := by
  refine ⟨by rw [← h.qv, hq]; rfl, ⟨h.opn, h.qu.dropG encW3 h.qc 1, by rw [hq]; rfl, fun r hr => h.qb r (List.mem_of_mem_drop hr), h.out, h.bs, ?_, h.oc, h.bc⟩⟩
  have := h.qc
  show (m.Q.drop 1).length ≤ m.c2 - 1
  rw [List.length_drop]; omega
theorem asks_self {u : PV} {w : Rw} {l : List Rr} (h : u.qu = w.v :: l) : u.asks w.id w.dl (byt ⟨w.body.toArray⟩) = true := by
  unfold PV.asks; rw [h, byt_mk]; simp [Rw.v]
theorem own_set {o : Option Nat} {c k : Nat} {tl : List Value} {L : Bs} {x z : UInt8} (h : Own o L.length c 1 (bvs L) tl) (hx : L[k]? = some x) : Own o (L.set k z).length c 1 (bvs (L.set k z)) tl := by
  have e : (bvs (L.set k z)).length = (bvs L).length := by rw [bvs_len, bvs_len, List.length_set]
  exact ⟨by rw [bvs_len, Nat.mul_one], by rw [e]; exact h.cap, by rw [List.length_set]; exact h.le, h.big, h.nil⟩
structure OwW where
  i : Nat
  L : Bs
end Go.Proofs.YtdelhikejgoffaaGreat
end
section
set_option linter.unusedVariables false
set_option maxRecDepth 20000
set_option maxHeartbeats 8000000
namespace Go.Proofs.YtdelhikejgoffaaGreat
theorem server_ok (hfull : WFullOk) {g : SG} {p : Nat} {u : PV} (hg : SGd g p u) {i : Nat} (hI : LwI i u) (hi : i ≤ 40) {M : Heap} {m : SvV} (h : SvR M m u) (a : Ac) (hd : RdM encY M a.oa a.data) (hl : a.data.length ≤ 1100) :
    Spec Tryz.prog 7 [ptrC p, svv m u, .agg #[.int .i64 a.what, .int .i64 a.id, .int .i64 a.n, .int .u64 (a.t : Int), .slice a.oa a.data.length a.c]] (sH g ++ M) (fun r H' => ∃ p' g' m' N, SGd g' p' (u.act a) ∧ SvR (N ++ M) m' (u.act a) ∧ r = .tuple #[ptrC p', svv m' (u.act a), .bool true] ∧ H' = sH g' ++ (N ++ M)) := by
  have hpv := hI.pvb (by omega)
  have hJ := hI.b.J
  have hB1 := hI.b.o
  have hB2 := hI.b.q
  have hql := h.qlen
  refine Spec.of (E := [(0, ptrC p), (1, svv m u), (2, .agg #[.int .i64 a.what, .int .i64 a.id, .int .i64 a.n, .int .u64 (a.t : Int), .slice a.oa a.data.length a.c])]) Tryz.func7 rfl (by kernel_rfl) Tryz.ntmps7 rfl rfl (fun w => ?_)
  refine WC_seq ?_
  refine WC_region ?_
  refine WL_do rfl rfl rfl (D_box (cs := [_, _, _, _, _, _]) rfl rfl rfl) ?_
  rintro _ _ ⟨b1, rfl, rfl⟩
  refine WL_do rfl rfl rfl (D_box (cs := [_, _, _, _, _]) rfl rfl rfl) ?_
  rintro _ _ ⟨b2, rfl, rfl⟩
  refine WL_val rfl rfl rfl (R_assign rfl rfl) ?_
  refine WL_do rfl rfl rfl (D_alloc rfl zv37) ?_
  rintro _ _ ⟨b3, rfl, rfl⟩
  refine WL_val rfl rfl rfl (R_assign rfl rfl) ?_
  refine WL_nil ?_
  refine WQ_code ?_
  refine WC_seq ?_
  refine WC_seq ?_
  refine WC_region ?_
  refine WL_val rfl rfl rfl (R_fieldAddr rfl fa43_0 rfl) ?_
  refine WL_val rfl rfl rfl (R_load rfl sc3 rfl (mmD) rfl) ?_
  refine WL_nil ?_
  refine WQ_code ?_
  refine WC_block ?_
  refine WC_seq ?_
  refine WC_region ?_
  refine WL_val rfl rfl rfl (R_eql rfl rfl rfl) ?_
  refine WL_val rfl rfl rfl (R_assign rfl rfl) ?_
  refine WL_nil ?_
  refine WQ_code ?_
  refine WC_dec rfl (fun c1 => ?_) (fun c1 => ?_)
  · have hA : u.act a = (u.reply a.id a.n a.data).1 := by unfold PV.act; rw [if_pos c1]
    refine WC_seq ?_
    refine WC_region ?_
    refine WL_val rfl rfl rfl (R_loadA (vs := [_, _, _, _, _, _]) rfl ag37 rfl (mmD) rfl (atZ)) ?_
    refine WL_val rfl rfl rfl (R_fieldAddr rfl fa43_1 rfl) ?_
    refine WL_val rfl rfl rfl (R_load rfl sc3 rfl (mmD) rfl) ?_
    refine WL_val rfl rfl rfl (R_fieldAddr rfl fa43_2 rfl) ?_
    refine WL_val rfl rfl rfl (R_load rfl sc3 rfl (mmD) rfl) ?_
    refine WL_val rfl rfl rfl (R_fieldAddr rfl fa43_4 rfl) ?_
    refine WL_val rfl rfl rfl (R_load rfl sc26 rfl (mmD) rfl) ?_
    refine WL_do rfl rfl rfl (D_call (wrep_ok h hJ a.id a.n hd (by omega) (by omega) (by omega)) rfl rfl rfl rfl (pqD)) ?_
    rintro _ _ ⟨_, ⟨N, m2, hS2, rfl, rfl⟩, rfl⟩
    refine WL_val rfl rfl rfl (R_move rfl rfl) ?_
    refine WL_val rfl rfl rfl (R_extract rfl rfl rfl) ?_
    refine WL_val rfl rfl rfl (R_extract rfl rfl rfl) ?_
    refine WL_do rfl rfl rfl (D_alloc rfl zv37) ?_
    rintro _ _ ⟨b4, rfl, rfl⟩
    refine WL_do0 rfl rfl (D_store (vs := [_, _, _, _, _, _]) rfl Tryz.sizeOf37 rfl rfl rfl rfl rfl (plD) (by exact Nat.le_of_ble_eq_true rfl)) ?_
    rintro _ _ rfl
    refine WL_val rfl rfl rfl (R_assign rfl rfl) ?_
    refine WL_nil ?_
    refine WQ_code ?_
    refine WC_seq ?_
    refine WC_drawR (⟨some b3, _⟩ :: ([] ++ sH g)) [(0, true), (1, true), (2, true), (3, true), (4, true), (5, true), (6, true), (7, true), (8, true), (10, true), (9, false), (11, true), (12, true), (13, false), (14, true)] followsMixed rfl rfl (by kernel_rfl) (pqD) ?_
    refine WM_val rfl rfl rfl rfl (R_move rfl rfl) ?_
    refine WM_val rfl rfl rfl rfl (R_loadA (vs := [_, _, _, _, _, _]) rfl ag37 rfl (mmD) rfl (atZ)) ?_
    refine WM_val rfl rfl rfl rfl (R_move rfl rfl) ?_
    refine WM_val rfl rfl rfl rfl (R_fieldAddr rfl fa43_1 rfl) ?_
    refine WM_val rfl rfl rfl rfl (R_load rfl sc3 rfl (mmD) rfl) ?_
    refine WM_val rfl rfl rfl rfl (R_fieldAddr rfl fa43_2 rfl) ?_
    refine WM_val rfl rfl rfl rfl (R_load rfl sc3 rfl (mmD) rfl) ?_
    refine WM_val rfl rfl rfl rfl (R_fieldAddr rfl fa43_4 rfl) ?_
    refine WM_val rfl rfl rfl rfl (R_load rfl sc26 rfl (mmD) rfl) ?_
    refine WM_val rfl rfl rfl rfl (R_move rfl rfl) ?_
    refine WM_do rfl rfl rfl rfl (D_call (sm_reply hg hpv a.id a.n (M := N ++ M) (hd.up N) (by omega)) rfl rfl rfl rfl (pqD)) ?_
    rintro _ _ ⟨_, ⟨g', hg', rfl, rfl⟩, rfl⟩
    refine ⟨⟨_, pqD⟩, ?_⟩
    refine WM_val rfl rfl rfl rfl (R_eql rfl rfl rfl) ?_
    refine WM_set (s := 50) (v := .bool true) rfl (by exact congrArg Value.bool (decide_eq_true rfl)) ?_
    refine WM_val rfl rfl rfl rfl (R_assign rfl rfl) ?_
    refine WM_do0 rfl rfl rfl (D_store (vs := [_, _, _, _, _, _]) rfl Tryz.sizeOf37 rfl rfl rfl rfl rfl (plD) (by exact Nat.le_of_ble_eq_true rfl)) ?_
    rintro _ _ rfl
    refine ⟨⟨_, pqD⟩, ?_⟩
    refine WM_val rfl rfl rfl rfl (R_assign rfl rfl) ?_
    refine WM_nil ?_
    refine WQ_code ?_
    refine WC_ret ?_
    refine WQ_ret rfl rfl (.cons (.tmp rfl) (.cons (.cell (vs := [_, _, _, _, _, _]) rfl ag37 (mmD) rfl (atZ)) (.cons (.tmp rfl) .nil))) rfl (by
        rw [hA]
        exact ⟨p, g', m2, N, hg', hS2, rfl, rfl⟩) (pqD)
  · have hw0 : ¬ a.what = 0 := c1
    refine WC_seq ?_
    refine WC_region ?_
    refine WL_val rfl rfl rfl (R_eql rfl rfl rfl) ?_
    refine WL_val rfl rfl rfl (R_assign rfl rfl) ?_
    refine WL_nil ?_
    refine WQ_code ?_
    refine WC_dec rfl (fun c2 => ?_) (fun c2 => ?_)
    · have hA : u.act a = (u.recv a.data).1 := by unfold PV.act; rw [if_neg hw0, if_pos c2]
      refine WC_seq ?_
      refine WC_region ?_
      refine WL_val rfl rfl rfl (R_loadA (vs := [_, _, _, _, _, _]) rfl ag37 rfl (mmD) rfl (atZ)) ?_
      refine WL_val rfl rfl rfl (R_fieldAddr rfl fa43_4 rfl) ?_
      refine WL_val rfl rfl rfl (R_load rfl sc26 rfl (mmD) rfl) ?_
      refine WL_do rfl rfl rfl (D_call (wsrcv_ok hfull h hJ (hI.pvi (by omega) hl) hd (by omega) (by omega)) rfl rfl rfl rfl (pqD)) ?_
      rintro _ _ ⟨_, ⟨N, m2, hS2, rfl, rfl⟩, rfl⟩
      refine WL_val rfl rfl rfl (R_move rfl rfl) ?_
      refine WL_val rfl rfl rfl (R_extract rfl rfl rfl) ?_
      refine WL_val rfl rfl rfl (R_extract rfl rfl rfl) ?_
      refine WL_do rfl rfl rfl (D_alloc rfl zv37) ?_
      rintro _ _ ⟨b5, rfl, rfl⟩
      refine WL_do0 rfl rfl (D_store (vs := [_, _, _, _, _, _]) rfl Tryz.sizeOf37 rfl rfl rfl rfl rfl (plD) (by exact Nat.le_of_ble_eq_true rfl)) ?_
      rintro _ _ rfl
      refine WL_val rfl rfl rfl (R_assign rfl rfl) ?_
      refine WL_nil ?_
      refine WQ_code ?_
      refine WC_seq ?_
      refine WC_region ?_
      refine WL_val rfl rfl rfl (R_fieldAddr rfl fa43_4 rfl) ?_
      refine WL_val rfl rfl rfl (R_load rfl sc26 rfl (mmD) rfl) ?_
      obtain ⟨ent0, hm0, hrb0⟩ := hd.b
      refine WL_do rfl rfl rfl (D_appendIn rfl si26 rfl rfl (RdM.inn (hd.up N) pqD) (by rw [Nat.mul_one]; exact bvs_len a.data) (by omega) (by omega)) ?_
      rintro _ _ ⟨o5, c5, tl5, rfl, own5, rfl⟩
      refine WL_val rfl rfl rfl (R_assign rfl rfl) ?_
      refine WL_nil ?_
      refine WQ_code ?_
      refine WC_seq ?_
      refine WC_region ?_
      refine WL_val rfl rfl rfl (R_move rfl rfl) ?_
      refine WL_val rfl rfl rfl (R_move rfl rfl) ?_
      refine WL_do rfl rfl rfl (D_call (s_recv hg hpv (RdB.own own5) (by omega)) rfl rfl rfl rfl (pqD)) ?_
      rintro _ _ ⟨_, ⟨g', hg', rfl, rfl⟩, rfl⟩
      refine WL_val rfl rfl rfl (R_assign rfl rfl) ?_
      refine WL_nil ?_
      refine WQ_code ?_
      refine WC_seq ?_
      refine WC_seq ?_
      refine WC_region ?_
      refine WL_val rfl rfl rfl (R_assign rfl rfl) ?_
      refine WL_nil ?_
      refine WQ_code ?_
      refine WC_block ?_
      refine WC_loopF (G := OwW) [15, 66, 67, 68, 69, 70, 71, 72, 73, 74, 75, 76, 77, 78, 79] (fun y => y.i ≤ a.data.length ∧ y.L.length = a.data.length ∧ Own o5 y.L.length c5 1 (bvs y.L) tl5) (fun y => [(15, .int .i64 (y.i : Int))]) (fun y => [⟨o5, cl (bvs y.L ++ tl5) 5⟩]) (fun y => a.data.length - y.i) (⟨0, a.data⟩) (⟨Nat.zero_le _, rfl, own5⟩) leZ (pqD) ?_
      rintro y ⟨hyi, hyl, ownS5⟩
      refine WC_seq ?_
      refine WC_seq ?_
      refine WC_region ?_
      refine WL_val rfl rfl rfl (R_move rfl rfl) ?_
      refine WL_val rfl rfl rfl (R_move rfl rfl) ?_
      refine WL_val rfl rfl rfl (R_len rfl Tryz.underlying26 rfl) ?_
      refine WL_val rfl rfl rfl (R_lss rfl rfl rfl) ?_
      refine WL_nil ?_
      refine WQ_code ?_
      refine WC_dec rfl (fun c3 => ?_) (fun c3 => ?_)
      · refine WC_skip ?_
        refine WQ_code ?_
        refine WC_seq ?_
        refine WC_block ?_
        refine WC_region ?_
        obtain ⟨wb, hwb⟩ := ownS5.some_of (by omega)
        obtain ⟨x, hx⟩ := getE (T := y.L) (i := y.i) (by omega)
        refine WL_val rfl rfl rfl (R_move rfl rfl) ?_
        refine WL_val rfl rfl rfl (R_move rfl rfl) ?_
        refine WL_val rfl rfl rfl (R_move rfl rfl) ?_
        refine WL_val rfl rfl rfl (R_move rfl rfl) ?_
        refine WL_val rfl rfl rfl (R_idxO hwb rfl Tryz.underlying26 Tryz.sizeOf5 rfl rfl (by omega)) ?_
        refine WL_val rfl rfl rfl (R_loadO (v := .int .u8 (x.toNat : Int)) hwb rfl sc5 rfl (mmD) (fm_get0 encY1 hx (j := 0) (by omega))) ?_
        refine WL_val rfl rfl rfl (R_xor8 rfl rfl) ?_
        refine WL_val rfl rfl rfl (R_idxO hwb rfl Tryz.underlying26 Tryz.sizeOf5 rfl rfl (by omega)) ?_
        refine WL_do0 rfl rfl (D_storeO (vs := [_]) hwb rfl Tryz.sizeOf5 rfl rfl rfl rfl rfl (plD) (by exact fm_room0 encY1 (show y.i < y.L.length by omega) (j := 0) (by omega))) ?_
        rintro _ _ rfl
        have hput := fm_put0 encY1 (xorB x) hx (j := 0) (vs := encY (xorB x)) (by simp) rfl (tl := tl5)
        rw [Nat.add_zero] at hput
        rw [hput]
        refine WL_nil ?_
        refine WQ_code ?_
        refine WC_region ?_
        refine WL_val rfl rfl rfl (R_move rfl rfl) ?_
        refine WL_val rfl rfl rfl (R_add rfl rfl rfl (by omega)) ?_
        refine WL_val rfl rfl rfl (R_assign rfl rfl) ?_
        refine WL_nil ?_
        refine WQ_nextF (gg := y) (⟨y.i + 1, y.L.set y.i (xorB x)⟩) (⟨by dsimp only; omega, by dsimp only; rw [List.length_set]; exact hyl, own_set ownS5 hx⟩) (by dsimp only; omega) leZ (psZ) rfl (pqD)
      · refine WC_exit ?_
        refine WQ_code ?_
        refine WC_seq ?_
        refine WC_drawR [⟨some b3, _⟩] [(0, true), (1, true), (2, true), (3, true), (4, true), (5, true), (6, false), (7, true)] followsMixed rfl rfl (by kernel_rfl) (pqD) ?_
        refine WM_val rfl rfl rfl rfl (R_move rfl rfl) ?_
        refine WM_val rfl rfl rfl rfl (R_loadA (vs := [_, _, _, _, _, _]) rfl ag37 rfl (mmD) rfl (atZ)) ?_
        refine WM_val rfl rfl rfl rfl (R_move rfl rfl) ?_
        refine WM_val rfl rfl rfl rfl (R_move rfl rfl) ?_
        refine WM_val rfl rfl rfl rfl (R_eql rfl rfl rfl) ?_
        refine WM_set (s := 84) (v := .bool true) rfl (by exact congrArg Value.bool (decide_eq_true rfl)) ?_
        refine WM_val rfl rfl rfl rfl (R_assign rfl rfl) ?_
        refine WM_do0 rfl rfl rfl (D_store (vs := [_, _, _, _, _, _]) rfl Tryz.sizeOf37 rfl rfl rfl rfl rfl (plD) (by exact Nat.le_of_ble_eq_true rfl)) ?_
        rintro _ _ rfl
        refine ⟨⟨_, pqD⟩, ?_⟩
        refine WM_val rfl rfl rfl rfl (R_assign rfl rfl) ?_
        refine WM_nil ?_
        refine WQ_code ?_
        refine WC_ret ?_
        refine WQ_ret rfl rfl (.cons (.tmp rfl) (.cons (.cell (vs := [_, _, _, _, _, _]) rfl ag37 (mmD) rfl (atZ)) (.cons (.tmp rfl) .nil))) rfl (by
            rw [hA]
            exact ⟨p, g', m2, N, hg', hS2, rfl, rfl⟩) (pqD)
    · have hw3 : ¬ a.what = 3 := c2
      refine WC_seq ?_
      refine WC_region ?_
      refine WL_val rfl rfl rfl (R_eql rfl rfl rfl) ?_
      refine WL_val rfl rfl rfl (R_assign rfl rfl) ?_
      refine WL_nil ?_
      refine WQ_code ?_
      refine WC_dec rfl (fun c4 => ?_) (fun c4 => ?_)
      · have hA : u.act a = u.next.1 := by unfold PV.act; rw [if_neg hw0, if_neg hw3, if_pos c4]
        refine WC_seq ?_
        refine WC_seq ?_
        refine WC_region ?_
        rcases hq : m.Q with _ | ⟨w, rest⟩
        · have hqu : u.qu = [] := by rw [← h.qv, hq]; rfl
          have hA2 : u.act a = u := by rw [hA]; unfold PV.next; rw [hqu]
          rw [← hq]
          refine WL_val rfl rfl rfl (R_fieldAddr rfl fa37_2 rfl) ?_
          refine WL_val rfl rfl rfl (R_load rfl sc33 rfl (mmD) rfl) ?_
          refine WL_val rfl rfl rfl (R_len rfl Tryz.underlying33 rfl) ?_
          refine WL_val rfl rfl rfl (R_eql rfl rfl rfl) ?_
          refine WL_set (s := 90) (v := .bool true) rfl (by exact congrArg Value.bool (decide_eq_true (by rw [hq]; rfl))) ?_
          refine WL_nil ?_
          refine WQ_code ?_
          refine WC_T rfl ?_
          refine WC_seq ?_
          refine WC_region ?_
          refine WL_val rfl rfl rfl (R_move rfl rfl) ?_
          refine WL_do rfl rfl rfl (D_call (s_next0 hg hpv hqu) rfl rfl rfl rfl (pqD)) ?_
          rintro _ _ ⟨_, ⟨g', hg', rfl, rfl⟩, rfl⟩
          refine WL_val rfl rfl rfl (R_move rfl rfl) ?_
          refine WL_val rfl rfl rfl (R_extract rfl rfl rfl) ?_
          refine WL_val rfl rfl rfl (R_extract rfl rfl rfl) ?_
          refine WL_do rfl rfl rfl (D_alloc rfl zv67) ?_
          rintro _ _ ⟨b6, rfl, rfl⟩
          refine WL_do0 rfl rfl (D_store (vs := [_, _, _]) rfl Tryz.sizeOf67 rfl rfl rfl rfl rfl (plD) (by exact Nat.le_of_ble_eq_true rfl)) ?_
          rintro _ _ rfl
          refine WL_val rfl rfl rfl (R_assign rfl rfl) ?_
          refine WL_nil ?_
          refine WQ_code ?_
          refine WC_seq ?_
          refine WC_drawR [⟨some b3, _⟩] [(0, true), (1, true), (2, true), (3, true), (4, true), (5, false), (6, true)] followsMixed rfl rfl (by kernel_rfl) (pqD) ?_
          refine WM_val rfl rfl rfl rfl (R_move rfl rfl) ?_
          refine WM_val rfl rfl rfl rfl (R_loadA (vs := [_, _, _, _, _, _]) rfl ag37 rfl (mmD) rfl (atZ)) ?_
          refine WM_val rfl rfl rfl rfl (R_move rfl rfl) ?_
          refine WM_val rfl rfl rfl rfl (R_not rfl rfl) ?_
          refine WM_val rfl rfl rfl rfl (R_assign rfl rfl) ?_
          refine WM_do0 rfl rfl rfl (D_store (vs := [_, _, _, _, _, _]) rfl Tryz.sizeOf37 rfl rfl rfl rfl rfl (plD) (by exact Nat.le_of_ble_eq_true rfl)) ?_
          rintro _ _ rfl
          refine ⟨⟨_, pqD⟩, ?_⟩
          refine WM_val rfl rfl rfl rfl (R_assign rfl rfl) ?_
          refine WM_nil ?_
          refine WQ_code ?_
          refine WC_ret ?_
          refine WQ_ret rfl rfl (.cons (.tmp rfl) (.cons (.cell (vs := [_, _, _, _, _, _]) rfl ag37 (mmD) rfl (atZ)) (.cons (.tmp rfl) .nil))) rfl (by
              rw [hA2]
              exact ⟨p, g', m, [], hg', h, rfl, rfl⟩) (pqD)
        · obtain ⟨hqu, hS2⟩ := h.next hq
          have hA2 : u.act a = { u with qu := rest.map Rw.v } := by rw [hA]; unfold PV.next; rw [hqu]
          obtain ⟨ent, hm, hr9⟩ := h.qu
          obtain ⟨rb, rk, rcs, re, rfr, hoa, rfl, hat⟩ := hr9 (by rw [hq]; simp)
          obtain ⟨ent2, hm2, hrb2⟩ := (h.qb w (by rw [hq]; exact List.mem_cons_self ..)).b
          have hqp : 0 < m.Q.length := by rw [hq]; simp
          rw [← hq, hoa]
          rw [hoa] at hS2
          refine WL_val rfl rfl rfl (R_fieldAddr rfl fa37_2 rfl) ?_
          refine WL_val rfl rfl rfl (R_load rfl sc33 rfl (mmD) rfl) ?_
          refine WL_val rfl rfl rfl (R_len rfl Tryz.underlying33 rfl) ?_
          refine WL_val rfl rfl rfl (R_eql rfl rfl rfl) ?_
          refine WL_set (s := 90) (v := .bool false) rfl (by exact congrArg Value.bool (decide_eq_false (by rw [hq, List.length_cons]; omega))) ?_
          refine WL_nil ?_
          refine WQ_code ?_
          refine WC_F rfl ?_
          refine WC_skip ?_
          refine WQ_code ?_
          refine WC_seq ?_
          refine WC_region ?_
          refine WL_val rfl rfl rfl (R_fieldAddr rfl fa37_2 rfl) ?_
          refine WL_val rfl rfl rfl (R_load rfl sc33 rfl (mmD) rfl) ?_
          refine WL_val rfl rfl rfl (R_indexAddr rfl Tryz.underlying33 Tryz.sizeOf67 rfl rfl (by omega)) ?_
          refine WL_val rfl rfl rfl (R_loadAG (vs := encW w) rfl ag67 rfl (pulls_mem (pqD : Pulls M _ _) hm) rfl (At.fm hat encW3 (i := 0) (x := w) (by rw [hq]; rfl))) ?_
          refine WL_do rfl rfl rfl (D_alloc rfl zv67) ?_
          rintro _ _ ⟨b7, rfl, rfl⟩
          refine WL_do0 rfl rfl (D_store (vs := [_, _, _]) rfl Tryz.sizeOf67 rfl rfl rfl rfl rfl (plD) (by exact Nat.le_of_ble_eq_true rfl)) ?_
          rintro _ _ rfl
          refine WL_nil ?_
          refine WQ_code ?_
          refine WC_seq ?_
          refine WC_region ?_
          refine WL_val rfl rfl rfl (R_fieldAddr rfl fa37_2 rfl) ?_
          refine WL_val rfl rfl rfl (R_load rfl sc33 rfl (mmD) rfl) ?_
          refine WL_val rfl rfl rfl (R_sliceFromG (m := 1) rfl Tryz.underlying33 Tryz.sizeOf67 rfl rfl (by rw [hq]; simp)) ?_
          rw [show m.Q.length - 1 = (m.Q.drop 1).length from by simp]
          refine WL_val rfl rfl rfl (R_fieldAddr rfl fa37_2 rfl) ?_
          refine WL_do0 rfl rfl (D_store (vs := [_]) rfl Tryz.sizeOf33 rfl rfl rfl rfl rfl (plD) (by exact Nat.le_of_ble_eq_true rfl)) ?_
          rintro _ _ rfl
          refine WL_nil ?_
          refine WQ_code ?_
          refine WC_seq ?_
          refine WC_drawR (⟨some b3, _⟩ :: ([] ++ sH g)) [(0, true), (1, true), (2, true), (3, true), (4, true), (5, true), (6, true), (7, true), (8, true), (9, true), (10, false), (11, true), (12, false), (13, true)] followsMixed rfl rfl (by kernel_rfl) (pqD) ?_
          refine WM_val rfl rfl rfl rfl (R_move rfl rfl) ?_
          refine WM_val rfl rfl rfl rfl (R_loadA (vs := [_, _, _, _, _, _]) rfl ag37 rfl (mmD) rfl (atZ)) ?_
          refine WM_val rfl rfl rfl rfl (R_move rfl rfl) ?_
          refine WM_val rfl rfl rfl rfl (R_fieldAddr rfl fa67_0 rfl) ?_
          refine WM_val rfl rfl rfl rfl (R_load rfl sc3 rfl (mmD) rfl) ?_
          refine WM_val rfl rfl rfl rfl (R_fieldAddr rfl fa67_1 rfl) ?_
          refine WM_val rfl rfl rfl rfl (R_load rfl sc41 rfl (mmD) rfl) ?_
          refine WM_val rfl rfl rfl rfl (R_fieldAddr rfl fa67_2 rfl) ?_
          refine WM_val rfl rfl rfl rfl (R_load rfl sc26 rfl (mmD) rfl) ?_
          refine WM_val rfl rfl rfl rfl (R_byteStr rfl Tryz.underlying26 Tryz.underlying5 Tryz.underlying9 rfl hrb2 (pulls_mem (pqD : Pulls M _ _) hm2)) ?_
          refine WM_do rfl rfl rfl rfl (D_call (asks_ok hg hpv w.id w.dl _) rfl rfl rfl rfl (pqD)) ?_
          rintro _ _ ⟨_, ⟨g', hg', rfl, rfl⟩, rfl⟩
          refine ⟨⟨_, pqD⟩, ?_⟩
          refine WM_set (s := 118) (v := .bool true) rfl (by rw [asks_self hqu]) ?_
          refine WM_val rfl rfl rfl rfl (R_assign rfl rfl) ?_
          refine WM_do0 rfl rfl rfl (D_store (vs := [_, _, _, _, _, _]) rfl Tryz.sizeOf37 rfl rfl rfl rfl rfl (plD) (by exact Nat.le_of_ble_eq_true rfl)) ?_
          rintro _ _ rfl
          refine ⟨⟨_, pqD⟩, ?_⟩
          refine WM_val rfl rfl rfl rfl (R_assign rfl rfl) ?_
          refine WM_nil ?_
          refine WQ_code ?_
          refine WC_ret ?_
          refine WQ_ret rfl rfl (.cons (.tmp rfl) (.cons (.cell (vs := [_, _, _, _, _, _]) rfl ag37 (mmD) rfl (atZ)) (.cons (.tmp rfl) .nil))) rfl (by
              rw [hA2]
              have hg2 : SGd g' p { u with qu := rest.map Rw.v } := by unfold PV.next at hg'; rw [hqu] at hg'; exact hg'
              exact ⟨p, g', _, [], hg2, hS2, rfl, rfl⟩) (pqD)
      · have hw5 : ¬ a.what = 5 := c4
        refine WC_seq ?_
        refine WC_region ?_
        refine WL_val rfl rfl rfl (R_eql rfl rfl rfl) ?_
        refine WL_val rfl rfl rfl (R_assign rfl rfl) ?_
        refine WL_nil ?_
        refine WQ_code ?_
        refine WC_dec rfl (fun c5 => ?_) (fun c5 => ?_)
        · have hA : u.act a = (u.take a.n).1 := by unfold PV.act; rw [if_neg hw0, if_neg hw3, if_neg hw5, if_pos c5]
          refine WC_seq ?_
          refine WC_region ?_
          rcases Classical.em (a.n < 0 ∨ 65536 < a.n) with hn | hn
          · have hA2 : u.act a = u := by rw [hA]; unfold PV.take; rw [if_pos hn]
            refine WL_val rfl rfl rfl (R_move rfl rfl) ?_
            refine WL_val rfl rfl rfl (R_fieldAddr rfl fa43_2 rfl) ?_
            refine WL_val rfl rfl rfl (R_load rfl sc3 rfl (mmD) rfl) ?_
            refine WL_do rfl rfl rfl (D_call (s_out0 hg hpv a.n hn) rfl rfl rfl rfl (pqD)) ?_
            rintro _ _ ⟨_, ⟨g', hg', rfl, rfl⟩, rfl⟩
            refine WL_val rfl rfl rfl (R_move rfl rfl) ?_
            refine WL_val rfl rfl rfl (R_extract rfl rfl rfl) ?_
            refine WL_val rfl rfl rfl (R_extract rfl rfl rfl) ?_
            refine WL_val rfl rfl rfl (R_assign rfl rfl) ?_
            refine WL_val rfl rfl rfl (R_assign rfl rfl) ?_
            refine WL_nil ?_
            refine WQ_code ?_
            refine WC_seq ?_
            refine WC_region ?_
            refine WL_val rfl rfl rfl (R_fieldAddr rfl fa37_3 rfl) ?_
            refine WL_val rfl rfl rfl (R_load rfl sc26 rfl (mmD) rfl) ?_
            refine WL_val rfl rfl rfl (R_fieldAddr rfl fa43_2 rfl) ?_
            refine WL_val rfl rfl rfl (R_load rfl sc3 rfl (mmD) rfl) ?_
            refine WL_val rfl rfl rfl (R_move rfl rfl) ?_
            refine WL_val rfl rfl rfl (R_move rfl rfl) ?_
            refine WL_do rfl rfl rfl (D_call (taken_bad (M := M) a.n hn) rfl rfl rfl rfl (pqD)) ?_
            rintro _ _ ⟨_, ⟨rfl, rfl⟩, rfl⟩
            refine WL_val rfl rfl rfl (R_move rfl rfl) ?_
            refine WL_val rfl rfl rfl (R_extract rfl rfl rfl) ?_
            refine WL_val rfl rfl rfl (R_extract rfl rfl rfl) ?_
            refine WL_val rfl rfl rfl (R_assign rfl rfl) ?_
            refine WL_val rfl rfl rfl (R_assign rfl rfl) ?_
            refine WL_nil ?_
            refine WQ_code ?_
            refine WC_seq ?_
            refine WC_region ?_
            refine WL_val rfl rfl rfl (R_move rfl rfl) ?_
            refine WL_val rfl rfl rfl (R_fieldAddr rfl fa37_3 rfl) ?_
            refine WL_do0 rfl rfl (D_store (vs := [_]) rfl Tryz.sizeOf26 rfl rfl rfl rfl rfl (plD) (by exact Nat.le_of_ble_eq_true rfl)) ?_
            rintro _ _ rfl
            refine WL_nil ?_
            refine WQ_code ?_
            refine WC_seq ?_
            refine WC_drawR [⟨some b3, _⟩] [(0, true), (1, true), (2, true), (3, true), (4, false), (5, true)] followsMixed rfl rfl (by kernel_rfl) (pqD) ?_
            refine WM_val rfl rfl rfl rfl (R_move rfl rfl) ?_
            refine WM_val rfl rfl rfl rfl (R_loadA (vs := [_, _, _, _, _, _]) rfl ag37 rfl (mmD) rfl (atZ)) ?_
            refine WM_val rfl rfl rfl rfl (R_move rfl rfl) ?_
            refine WM_val rfl rfl rfl rfl (R_assign rfl rfl) ?_
            refine WM_do0 rfl rfl rfl (D_store (vs := [_, _, _, _, _, _]) rfl Tryz.sizeOf37 rfl rfl rfl rfl rfl (plD) (by exact Nat.le_of_ble_eq_true rfl)) ?_
            rintro _ _ rfl
            refine ⟨⟨_, pqD⟩, ?_⟩
            refine WM_val rfl rfl rfl rfl (R_assign rfl rfl) ?_
            refine WM_nil ?_
            refine WQ_code ?_
            refine WC_ret ?_
            refine WQ_ret rfl rfl (.cons (.tmp rfl) (.cons (.cell (vs := [_, _, _, _, _, _]) rfl ag37 (mmD) rfl (atZ)) (.cons (.tmp rfl) .nil))) rfl (by
                rw [hA2]
                exact ⟨p, g', m, [], hg', h, rfl, rfl⟩) (pqD)
          · obtain ⟨kn, hkn⟩ : ∃ q : Nat, a.n = q := ⟨a.n.toNat, by omega⟩
            have hA2 : u.act a = { u with out := u.out.drop kn } := by rw [hA]; unfold PV.take; rw [if_neg hn, hkn]; rfl
            rw [hkn]
            refine WL_val rfl rfl rfl (R_move rfl rfl) ?_
            refine WL_val rfl rfl rfl (R_fieldAddr rfl fa43_2 rfl) ?_
            refine WL_val rfl rfl rfl (R_load rfl sc3 rfl (mmD) rfl) ?_
            refine WL_do rfl rfl rfl (D_call (s_out1 hg hpv kn (by omega)) rfl rfl rfl rfl (pqD)) ?_
            rintro _ _ ⟨_, ⟨g', o9, c9, tl9, hg', own9, rfl, rfl⟩, rfl⟩
            refine WL_val rfl rfl rfl (R_move rfl rfl) ?_
            refine WL_val rfl rfl rfl (R_extract rfl rfl rfl) ?_
            refine WL_val rfl rfl rfl (R_extract rfl rfl rfl) ?_
            refine WL_val rfl rfl rfl (R_assign rfl rfl) ?_
            refine WL_val rfl rfl rfl (R_assign rfl rfl) ?_
            refine WL_nil ?_
            refine WQ_code ?_
            refine WC_seq ?_
            refine WC_region ?_
            refine WL_val rfl rfl rfl (R_fieldAddr rfl fa37_3 rfl) ?_
            refine WL_val rfl rfl rfl (R_load rfl sc26 rfl (mmD) rfl) ?_
            refine WL_val rfl rfl rfl (R_fieldAddr rfl fa43_2 rfl) ?_
            refine WL_val rfl rfl rfl (R_load rfl sc3 rfl (mmD) rfl) ?_
            refine WL_val rfl rfl rfl (R_move rfl rfl) ?_
            refine WL_val rfl rfl rfl (R_move rfl rfl) ?_
            refine WL_do rfl rfl rfl (D_call (taken_ok (M := [⟨o9, cl (bvs (u.out.take kn) ++ tl9) 5⟩] ++ M) (h.out.up [⟨o9, cl (bvs (u.out.take kn) ++ tl9) 5⟩]) h.oc (by omega) kn (by omega) (RdM.own (e := 5) own9 M)) rfl rfl rfl rfl (pqD)) ?_
            rintro _ _ ⟨_, ⟨oT, cT, rfl, hrT, hcT, rfl⟩, rfl⟩
            refine WL_val rfl rfl rfl (R_move rfl rfl) ?_
            refine WL_val rfl rfl rfl (R_extract rfl rfl rfl) ?_
            refine WL_val rfl rfl rfl (R_extract rfl rfl rfl) ?_
            refine WL_val rfl rfl rfl (R_assign rfl rfl) ?_
            refine WL_val rfl rfl rfl (R_assign rfl rfl) ?_
            refine WL_nil ?_
            refine WQ_code ?_
            refine WC_seq ?_
            refine WC_region ?_
            refine WL_val rfl rfl rfl (R_move rfl rfl) ?_
            refine WL_val rfl rfl rfl (R_fieldAddr rfl fa37_3 rfl) ?_
            refine WL_do0 rfl rfl (D_store (vs := [_]) rfl Tryz.sizeOf26 rfl rfl rfl rfl rfl (plD) (by exact Nat.le_of_ble_eq_true rfl)) ?_
            rintro _ _ rfl
            refine WL_nil ?_
            refine WQ_code ?_
            refine WC_seq ?_
            refine WC_drawR [⟨some b3, _⟩] [(0, true), (1, true), (2, true), (3, true), (4, false), (5, true)] followsMixed rfl rfl (by kernel_rfl) (pqD) ?_
            refine WM_val rfl rfl rfl rfl (R_move rfl rfl) ?_
            refine WM_val rfl rfl rfl rfl (R_loadA (vs := [_, _, _, _, _, _]) rfl ag37 rfl (mmD) rfl (atZ)) ?_
            refine WM_val rfl rfl rfl rfl (R_move rfl rfl) ?_
            refine WM_val rfl rfl rfl rfl (R_assign rfl rfl) ?_
            refine WM_do0 rfl rfl rfl (D_store (vs := [_, _, _, _, _, _]) rfl Tryz.sizeOf37 rfl rfl rfl rfl rfl (plD) (by exact Nat.le_of_ble_eq_true rfl)) ?_
            rintro _ _ rfl
            refine ⟨⟨_, pqD⟩, ?_⟩
            refine WM_val rfl rfl rfl rfl (R_assign rfl rfl) ?_
            refine WM_nil ?_
            refine WQ_code ?_
            refine WC_ret ?_
            refine WQ_ret rfl rfl (.cons (.tmp rfl) (.cons (.cell (vs := [_, _, _, _, _, _]) rfl ag37 (mmD) rfl (atZ)) (.cons (.tmp rfl) .nil))) rfl (by
                rw [hA2]
                exact ⟨p, g', { m with a3 := oT, c3 := cT }, [⟨o9, cl (bvs (u.out.take kn) ++ tl9) 5⟩], hg', ⟨h.opn.up _, h.qu.up _, h.qv, fun r hr => (h.qb r hr).up _, hrT, h.bs.up _, h.qc, hcT, h.bc⟩, rfl, rfl⟩) (pqD)
        · have hA : u.act a = u := by unfold PV.act; rw [if_neg hw0, if_neg hw3, if_neg hw5, if_neg c5]
          refine WC_skip ?_
          refine WQ_code ?_
          refine WC_seq ?_
          refine WC_region ?_
          refine WL_val rfl rfl rfl (R_move rfl rfl) ?_
          refine WL_do rfl rfl rfl (D_call (s_copy hg hpv (fun r hr => by have := hI.b.qb r hr; omega)) rfl rfl rfl rfl (pqD)) ?_
          rintro _ _ ⟨_, ⟨gc, pc, hgc, rfl, rfl⟩, rfl⟩
          refine WL_val rfl rfl rfl (R_assign rfl rfl) ?_
          refine WL_nil ?_
          refine WQ_code ?_
          refine WC_seq ?_
          refine WC_region ?_
          refine WL_val rfl rfl rfl (R_move rfl rfl) ?_
          refine WL_none 5 ?_
          refine WL_do rfl rfl rfl (D_call (s_reply hg hpv 1 0 (body := []) (RdB.nil none ⟨none, cl [] 5⟩) (by decide)) rfl rfl rfl rfl (pqD)) ?_
          rintro _ _ ⟨_, ⟨g1, hg1, rfl, rfl⟩, rfl⟩
          refine WL_nil ?_
          refine WQ_code ?_
          refine WC_seq ?_
          refine WC_region ?_
          rcases hq1 : (u.reply 1 0 []).1.qu with _ | ⟨rr, rest⟩
          · have hI1 := hI.reply 1 0 []
            have hpv2 : PVB (u.reply 1 0 []).1 := hI1.pvb (by omega)
            refine WL_val rfl rfl rfl (R_move rfl rfl) ?_
            refine WL_do rfl rfl rfl (D_call (s_next0 hg1 hpv2 hq1) rfl rfl rfl rfl (pqD)) ?_
            rintro _ _ ⟨_, ⟨g2, hg2, rfl, rfl⟩, rfl⟩
            refine WL_nil ?_
            refine WQ_code ?_
            refine WC_seq ?_
            refine WC_region ?_
            refine WL_val rfl rfl rfl (R_move rfl rfl) ?_
            refine WL_do rfl rfl rfl (D_buildSlice rfl si26 rfl rfl rfl) ?_
            rintro _ _ ⟨b8, rfl, rfl⟩
            refine WL_do rfl rfl rfl (D_call (s_recv hg2 hpv2 (RdB.blk _ [1]) (by decide)) rfl rfl rfl rfl (pqD)) ?_
            rintro _ _ ⟨_, ⟨g3, hg3, rfl, rfl⟩, rfl⟩
            refine WL_nil ?_
            refine WQ_code ?_
            refine WC_seq ?_
            refine WC_drawR [⟨some b3, _⟩] [(0, true), (1, true), (2, true), (3, true), (4, true), (5, false), (6, true)] followsMixed rfl rfl (by kernel_rfl) (pqD) ?_
            refine WM_val rfl rfl rfl rfl (R_move rfl rfl) ?_
            refine WM_val rfl rfl rfl rfl (R_loadA (vs := [_, _, _, _, _, _]) rfl ag37 rfl (mmD) rfl (atZ)) ?_
            refine WM_val rfl rfl rfl rfl (R_move rfl rfl) ?_
            refine WM_val rfl rfl rfl rfl (R_ptrNeNil rfl Tryz.underlying25 rfl) ?_
            refine WM_val rfl rfl rfl rfl (R_assign rfl rfl) ?_
            refine WM_do0 rfl rfl rfl (D_store (vs := [_, _, _, _, _, _]) rfl Tryz.sizeOf37 rfl rfl rfl rfl rfl (plD) (by exact Nat.le_of_ble_eq_true rfl)) ?_
            rintro _ _ rfl
            refine ⟨⟨_, pqD⟩, ?_⟩
            refine WM_val rfl rfl rfl rfl (R_assign rfl rfl) ?_
            refine WM_nil ?_
            refine WQ_code ?_
            refine WC_ret ?_
            refine WQ_ret rfl rfl (.cons (.tmp rfl) (.cons (.cell (vs := [_, _, _, _, _, _]) rfl ag37 (mmD) rfl (atZ)) (.cons (.tmp rfl) .nil))) rfl (by
                rw [hA]
                exact ⟨pc, gc, m, [], hgc, h, rfl, rfl⟩) (pqD)
          · have hI1 := hI.reply 1 0 []
            have hpv1 : PVB (u.reply 1 0 []).1 := hI1.pvb (by omega)
            have hpv2 : PVB { (u.reply 1 0 []).1 with qu := rest } := (hI1.nextX hq1).pvb (by omega)
            refine WL_val rfl rfl rfl (R_move rfl rfl) ?_
            refine WL_do rfl rfl rfl (D_call (s_next1 hg1 hpv1 hq1) rfl rfl rfl rfl (pqD)) ?_
            rintro _ _ ⟨_, ⟨g2, o9, c9, tl9, hg2, own9, rfl, rfl⟩, rfl⟩
            refine WL_nil ?_
            refine WQ_code ?_
            refine WC_seq ?_
            refine WC_region ?_
            refine WL_val rfl rfl rfl (R_move rfl rfl) ?_
            refine WL_do rfl rfl rfl (D_buildSlice rfl si26 rfl rfl rfl) ?_
            rintro _ _ ⟨b9, rfl, rfl⟩
            refine WL_do rfl rfl rfl (D_call (s_recv hg2 hpv2 (RdB.blk _ [1]) (by decide)) rfl rfl rfl rfl (pqD)) ?_
            rintro _ _ ⟨_, ⟨g3, hg3, rfl, rfl⟩, rfl⟩
            refine WL_nil ?_
            refine WQ_code ?_
            refine WC_seq ?_
            refine WC_drawR [⟨some b3, _⟩] [(0, true), (1, true), (2, true), (3, true), (4, true), (5, false), (6, true)] followsMixed rfl rfl (by kernel_rfl) (pqD) ?_
            refine WM_val rfl rfl rfl rfl (R_move rfl rfl) ?_
            refine WM_val rfl rfl rfl rfl (R_loadA (vs := [_, _, _, _, _, _]) rfl ag37 rfl (mmD) rfl (atZ)) ?_
            refine WM_val rfl rfl rfl rfl (R_move rfl rfl) ?_
            refine WM_val rfl rfl rfl rfl (R_ptrNeNil rfl Tryz.underlying25 rfl) ?_
            refine WM_val rfl rfl rfl rfl (R_assign rfl rfl) ?_
            refine WM_do0 rfl rfl rfl (D_store (vs := [_, _, _, _, _, _]) rfl Tryz.sizeOf37 rfl rfl rfl rfl rfl (plD) (by exact Nat.le_of_ble_eq_true rfl)) ?_
            rintro _ _ rfl
            refine ⟨⟨_, pqD⟩, ?_⟩
            refine WM_val rfl rfl rfl rfl (R_assign rfl rfl) ?_
            refine WM_nil ?_
            refine WQ_code ?_
            refine WC_ret ?_
            refine WQ_ret rfl rfl (.cons (.tmp rfl) (.cons (.cell (vs := [_, _, _, _, _, _]) rfl ag37 (mmD) rfl (atZ)) (.cons (.tmp rfl) .nil))) rfl (by
                rw [hA]
                exact ⟨pc, gc, m, [], hgc, h, rfl, rfl⟩) (pqD)
end Go.Proofs.YtdelhikejgoffaaGreat
end
section
set_option linter.unusedVariables false
set_option maxRecDepth 20000
set_option maxHeartbeats 4000000
namespace Go.Proofs.YtdelhikejgoffaaGreat
theorem known_ok : Spec Tryz.prog 6 [] [] (fun r H' => r = .bool true ∧ H' = []) := by
  refine Spec.of (E := []) Tryz.func6 rfl (by kernel_rfl) Tryz.ntmps6 rfl rfl (fun w => ?_)
  refine WC_seq ?_
  refine WC_region ?_
  refine WL_val rfl rfl rfl (R_assign rfl rfl) ?_
  refine WL_nil ?_
  refine WQ_code ?_
  refine WC_seq ?_
  refine WC_region ?_
  refine WL_val rfl rfl rfl (R_build rfl zv51 pl51 rfl rfl) ?_
  refine WL_do rfl rfl rfl (D_box (cs := [_, _, _, _, _, _, _, _, _]) rfl rfl rfl) ?_
  rintro _ _ ⟨b1, rfl, rfl⟩
  obtain ⟨gpc0, hpc0, hx1⟩ := c_new b1
  refine WL_turn hx1 plD ?_
  refine WL_val rfl rfl rfl (R_build rfl zv35 pl35 rfl rfl) ?_
  refine WL_do rfl rfl rfl (D_box (cs := [_, _, _, _, _, _, _]) rfl rfl rfl) ?_
  rintro _ _ ⟨b2, rfl, rfl⟩
  obtain ⟨gpv0, hpv0, hx2⟩ := s_new b2
  refine WL_turn hx2 plD ?_
  refine WL_val rfl rfl rfl (R_assign rfl rfl) ?_
  refine WL_val rfl rfl rfl (R_assign rfl rfl) ?_
  refine WL_nil ?_
  refine WQ_code ?_
  refine WC_seq ?_
  refine WC_seq ?_
  refine WC_region ?_
  refine WL_val rfl rfl rfl (R_move rfl rfl) ?_
  refine WL_do rfl rfl rfl (D_call (calls_ok hpc0 pc0b _ 10 (by omega) 1 0) rfl rfl rfl rfl (pqD)) ?_
  rintro _ _ ⟨_, ⟨gkc1, hkc1, rfl, rfl⟩, rfl⟩
  refine WL_set (s := 10) (v := .bool true) rfl (by exact congrArg Value.bool (decide_eq_true kf1)) ?_
  have hkc1 : CGd gkc1 b1 kc1 := hkc1
  refine WL_val rfl rfl rfl (R_not rfl rfl) ?_
  refine WL_val rfl rfl rfl (R_move rfl rfl) ?_
  refine WL_val rfl rfl rfl (R_move rfl rfl) ?_
  refine WL_do rfl rfl rfl (D_call (calls_ok hkc1 kc1b _ 5 (by omega) 2 0) rfl rfl rfl rfl (pqD)) ?_
  rintro _ _ ⟨_, ⟨gkc2, hkc2, rfl, rfl⟩, rfl⟩
  refine WL_set (s := 14) (v := .bool true) rfl (by exact congrArg Value.bool (decide_eq_true kf2)) ?_
  have hkc2 : CGd gkc2 b1 kc2 := hkc2
  refine WL_val rfl rfl rfl (R_not rfl rfl) ?_
  refine WL_val rfl rfl rfl (R_pickF rfl rfl rfl) ?_
  refine WL_val rfl rfl rfl (R_move rfl rfl) ?_
  refine WL_val rfl rfl rfl (R_move rfl rfl) ?_
  refine WL_do rfl rfl rfl (D_call (calls_ok hkc2 kc2b _ 0 (by omega) 0 2) rfl rfl rfl rfl (pqD)) ?_
  rintro _ _ ⟨_, ⟨gkc3, hkc3, rfl, rfl⟩, rfl⟩
  refine WL_set (s := 19) (v := .bool true) rfl (by exact congrArg Value.bool (decide_eq_true kf3)) ?_
  have hkc3 : CGd gkc3 b1 kc3 := hkc3
  refine WL_val rfl rfl rfl (R_not rfl rfl) ?_
  refine WL_val rfl rfl rfl (R_pickF rfl rfl rfl) ?_
  refine WL_val rfl rfl rfl (R_move rfl rfl) ?_
  refine WL_val rfl rfl rfl (R_move rfl rfl) ?_
  refine WL_val rfl rfl rfl (R_move rfl rfl) ?_
  refine WL_do rfl rfl rfl (D_call (up_ok hkc3 kc3b hpv0 pv0b) rfl rfl rfl rfl (pqD)) ?_
  rintro _ _ ⟨_, ⟨gkc4, gks1, hkc4, hks1, rfl, rfl⟩, rfl⟩
  refine WL_set (s := 25) (v := .bool true) rfl (by exact congrArg Value.bool (decide_eq_true kf4)) ?_
  have hkc4 : CGd gkc4 b1 kc4 := hkc4
  have hks1 : SGd gks1 b2 ks1 := hks1
  refine WL_val rfl rfl rfl (R_not rfl rfl) ?_
  refine WL_val rfl rfl rfl (R_pickF rfl rfl rfl) ?_
  refine WL_val rfl rfl rfl (R_move rfl rfl) ?_
  refine WL_val rfl rfl rfl (R_move rfl rfl) ?_
  refine WL_do rfl rfl rfl (D_call (asks_ok hks1 ks1b 1 10 _) rfl rfl rfl rfl (pqD)) ?_
  rintro _ _ ⟨_, ⟨gks2, hks2, rfl, rfl⟩, rfl⟩
  refine WL_set (s := 30) (v := .bool true) rfl (by exact congrArg Value.bool kf5) ?_
  have hks2 : SGd gks2 b2 ks2 := hks2
  refine WL_val rfl rfl rfl (R_not rfl rfl) ?_
  refine WL_val rfl rfl rfl (R_pickF rfl rfl rfl) ?_
  refine WL_val rfl rfl rfl (R_move rfl rfl) ?_
  refine WL_val rfl rfl rfl (R_move rfl rfl) ?_
  refine WL_do rfl rfl rfl (D_call (asks_ok hks2 ks2b 2 5 _) rfl rfl rfl rfl (pqD)) ?_
  rintro _ _ ⟨_, ⟨gks3, hks3, rfl, rfl⟩, rfl⟩
  refine WL_set (s := 35) (v := .bool true) rfl (by exact congrArg Value.bool kf6) ?_
  have hks3 : SGd gks3 b2 ks3 := hks3
  refine WL_val rfl rfl rfl (R_not rfl rfl) ?_
  refine WL_val rfl rfl rfl (R_pickF rfl rfl rfl) ?_
  refine WL_nil ?_
  refine WQ_code ?_
  refine WC_F rfl ?_
  refine WC_skip ?_
  refine WQ_code ?_
  refine WC_seq ?_
  refine WC_seq ?_
  refine WC_region ?_
  refine WL_val rfl rfl rfl (R_move rfl rfl) ?_
  refine WL_do rfl rfl rfl (D_buildSlice rfl si26 rfl rfl rfl) ?_
  rintro _ _ ⟨b3, rfl, rfl⟩
  refine WL_do rfl rfl rfl (D_bytesConst rfl Tryz.underlying26 Tryz.underlying5 rfl plD) ?_
  rintro _ _ ⟨frb3, rfl, rfl⟩
  refine WL_do rfl rfl rfl (D_call (s_reply hks3 ks3b 1 0 (body := [121, 101, 115]) (RdB.cst b3 [121, 101, 115]) (by decide)) rfl rfl rfl rfl (pqD)) ?_
  rintro _ _ ⟨_, ⟨gks4, hks4, rfl, rfl⟩, rfl⟩
  have hks4 : SGd gks4 b2 ks4 := hks4
  refine WL_val rfl rfl rfl (R_neq rfl rfl rfl) ?_
  refine WL_set (s := 42) (v := .bool false) rfl (by exact congrArg Value.bool (decide_eq_false (fun e => e kf7))) ?_
  refine WL_val rfl rfl rfl (R_move rfl rfl) ?_
  refine WL_val rfl rfl rfl (R_move rfl rfl) ?_
  refine WL_val rfl rfl rfl (R_move rfl rfl) ?_
  refine WL_do rfl rfl rfl (D_call (down_ok hkc4 kc4b hks4 ks4b) rfl rfl rfl rfl (pqD)) ?_
  rintro _ _ ⟨_, ⟨gkc5, gks5, hks5, hkc5, rfl, rfl⟩, rfl⟩
  refine WL_set (s := 46) (v := .bool true) rfl (by exact congrArg Value.bool (decide_eq_true kf8)) ?_
  have hkc5 : CGd gkc5 b1 kc5 := hkc5
  have hks5 : SGd gks5 b2 ks5 := hks5
  refine WL_val rfl rfl rfl (R_not rfl rfl) ?_
  refine WL_val rfl rfl rfl (R_pickF rfl rfl rfl) ?_
  refine WL_val rfl rfl rfl (R_move rfl rfl) ?_
  refine WL_val rfl rfl rfl (R_move rfl rfl) ?_
  refine WL_do rfl rfl rfl (D_call (ends_ok hkc5 kc5b 1 0 _ (fun r hr => of_decide_eq_true (List.all_eq_true.1 kf10 r hr))) rfl rfl rfl rfl (pqD)) ?_
  rintro _ _ ⟨_, ⟨gkc6, hkc6, rfl, rfl⟩, rfl⟩
  refine WL_set (s := 51) (v := .bool true) rfl (by exact congrArg Value.bool kf9) ?_
  have hkc6 : CGd gkc6 b1 kc6 := hkc6
  refine WL_val rfl rfl rfl (R_not rfl rfl) ?_
  refine WL_val rfl rfl rfl (R_pickF rfl rfl rfl) ?_
  refine WL_val rfl rfl rfl (R_move rfl rfl) ?_
  refine WL_val rfl rfl rfl (R_move rfl rfl) ?_
  refine WL_do rfl rfl rfl (D_buildSlice rfl si26 rfl rfl rfl) ?_
  rintro _ _ ⟨b4, rfl, rfl⟩
  refine WL_do rfl rfl rfl (D_bytesConst rfl Tryz.underlying26 Tryz.underlying5 rfl plD) ?_
  rintro _ _ ⟨frb4, rfl, rfl⟩
  refine WL_do rfl rfl rfl (D_call (s_reply hks5 ks5b 1 0 (body := [110, 111]) (RdB.cst b4 [110, 111]) (by decide)) rfl rfl rfl rfl (pqD)) ?_
  rintro _ _ ⟨_, ⟨gks6, hks6, rfl, rfl⟩, rfl⟩
  have hks6 : SGd gks6 b2 ks6 := hks6
  refine WL_val rfl rfl rfl (R_neq rfl rfl rfl) ?_
  refine WL_set (s := 59) (v := .bool false) rfl (by exact congrArg Value.bool (decide_eq_false (fun e => e kf11))) ?_
  refine WL_val rfl rfl rfl (R_pickF rfl rfl rfl) ?_
  refine WL_nil ?_
  refine WQ_code ?_
  refine WC_F rfl ?_
  refine WC_skip ?_
  refine WQ_code ?_
  refine WC_seq ?_
  refine WC_seq ?_
  refine WC_region ?_
  refine WL_val rfl rfl rfl (R_move rfl rfl) ?_
  refine WL_do rfl rfl rfl (D_call (k_adv hkc6 kc6b 5) rfl rfl rfl rfl (pqD)) ?_
  rintro _ _ ⟨_, ⟨gkc7, hkc7, rfl, rfl⟩, rfl⟩
  have hkc7 : CGd gkc7 b1 kc7 := hkc7
  refine WL_val rfl rfl rfl (R_neq rfl rfl rfl) ?_
  refine WL_set (s := 63) (v := .bool false) rfl (by exact congrArg Value.bool (decide_eq_false (fun e => e kf12))) ?_
  refine WL_val rfl rfl rfl (R_move rfl rfl) ?_
  refine WL_val rfl rfl rfl (R_move rfl rfl) ?_
  refine WL_do rfl rfl rfl (D_call (ends_ok hkc7 kc7b 2 12 _ (fun r hr => of_decide_eq_true (List.all_eq_true.1 kf14 r hr))) rfl rfl rfl rfl (pqD)) ?_
  rintro _ _ ⟨_, ⟨gkc8, hkc8, rfl, rfl⟩, rfl⟩
  refine WL_set (s := 66) (v := .bool true) rfl (by exact congrArg Value.bool kf13) ?_
  have hkc8 : CGd gkc8 b1 kc8 := hkc8
  refine WL_val rfl rfl rfl (R_not rfl rfl) ?_
  refine WL_val rfl rfl rfl (R_pickF rfl rfl rfl) ?_
  refine WL_val rfl rfl rfl (R_move rfl rfl) ?_
  refine WL_val rfl rfl rfl (R_move rfl rfl) ?_
  refine WL_val rfl rfl rfl (R_move rfl rfl) ?_
  refine WL_do rfl rfl rfl (D_call (up_ok hkc8 kc8b hks6 ks6b) rfl rfl rfl rfl (pqD)) ?_
  rintro _ _ ⟨_, ⟨gkc9, gks7, hkc9, hks7, rfl, rfl⟩, rfl⟩
  refine WL_set (s := 72) (v := .bool true) rfl (by exact congrArg Value.bool (decide_eq_true kf15)) ?_
  have hkc9 : CGd gkc9 b1 kc9 := hkc9
  have hks7 : SGd gks7 b2 ks7 := hks7
  refine WL_val rfl rfl rfl (R_not rfl rfl) ?_
  refine WL_val rfl rfl rfl (R_pickF rfl rfl rfl) ?_
  refine WL_val rfl rfl rfl (R_move rfl rfl) ?_
  refine WL_val rfl rfl rfl (R_move rfl rfl) ?_
  refine WL_do rfl rfl rfl (D_call (s_open hks7 ks7b) rfl rfl rfl rfl (pqD)) ?_
  rintro _ _ ⟨_, ⟨oq, cq, tq, rfl, ownq, rfl⟩, rfl⟩
  refine WL_val rfl rfl rfl (R_len rfl Tryz.underlying32 rfl) ?_
  refine WL_val rfl rfl rfl (R_neq rfl rfl rfl) ?_
  refine WL_set (s := 79) (v := .bool false) rfl (by exact congrArg Value.bool (decide_eq_false (fun e => e (by rw [kf16]; rfl)))) ?_
  refine WL_val rfl rfl rfl (R_pickF rfl rfl rfl) ?_
  refine WL_val rfl rfl rfl (R_move rfl rfl) ?_
  refine WL_val rfl rfl rfl (R_move rfl rfl) ?_
  refine WL_none 5 ?_
  refine WL_do rfl rfl rfl (D_call (s_reply hks7 ks7b 2 0 (body := []) (RdB.nil none ⟨none, cl [] 5⟩) (by decide)) rfl rfl rfl rfl (pqD)) ?_
  rintro _ _ ⟨_, ⟨gks8, hks8, rfl, rfl⟩, rfl⟩
  have hks8 : SGd gks8 b2 ks8 := hks8
  refine WL_val rfl rfl rfl (R_neq rfl rfl rfl) ?_
  refine WL_set (s := 84) (v := .bool false) rfl (by exact congrArg Value.bool (decide_eq_false (fun e => e kf17))) ?_
  refine WL_val rfl rfl rfl (R_pickF rfl rfl rfl) ?_
  refine WL_nil ?_
  refine WQ_code ?_
  refine WC_F rfl ?_
  refine WC_skip ?_
  refine WQ_code ?_
  refine WC_seq ?_
  refine WC_seq ?_
  refine WC_region ?_
  refine WL_val rfl rfl rfl (R_move rfl rfl) ?_
  refine WL_do rfl rfl rfl (D_call (calls_ok hkc9 kc9b _ 9 (by omega) 3 0) rfl rfl rfl rfl (pqD)) ?_
  rintro _ _ ⟨_, ⟨gkc10, hkc10, rfl, rfl⟩, rfl⟩
  refine WL_set (s := 87) (v := .bool true) rfl (by exact congrArg Value.bool (decide_eq_true kf18)) ?_
  have hkc10 : CGd gkc10 b1 kc10 := hkc10
  refine WL_val rfl rfl rfl (R_not rfl rfl) ?_
  refine WL_val rfl rfl rfl (R_move rfl rfl) ?_
  refine WL_val rfl rfl rfl (R_move rfl rfl) ?_
  refine WL_val rfl rfl rfl (R_move rfl rfl) ?_
  refine WL_do rfl rfl rfl (D_call (up_ok hkc10 kc10b hks8 ks8b) rfl rfl rfl rfl (pqD)) ?_
  rintro _ _ ⟨_, ⟨gkc11, gks9, hkc11, hks9, rfl, rfl⟩, rfl⟩
  refine WL_set (s := 92) (v := .bool true) rfl (by exact congrArg Value.bool (decide_eq_true kf19)) ?_
  have hkc11 : CGd gkc11 b1 kc11 := hkc11
  have hks9 : SGd gks9 b2 ks9 := hks9
  refine WL_val rfl rfl rfl (R_not rfl rfl) ?_
  refine WL_val rfl rfl rfl (R_pickF rfl rfl rfl) ?_
  refine WL_val rfl rfl rfl (R_move rfl rfl) ?_
  refine WL_val rfl rfl rfl (R_move rfl rfl) ?_
  refine WL_do rfl rfl rfl (D_call (k_cancel hkc11 kc11b 3) rfl rfl rfl rfl (pqD)) ?_
  rintro _ _ ⟨_, ⟨gkc12, hkc12, rfl, rfl⟩, rfl⟩
  have hkc12 : CGd gkc12 b1 kc12 := hkc12
  refine WL_val rfl rfl rfl (R_neq rfl rfl rfl) ?_
  refine WL_set (s := 98) (v := .bool false) rfl (by exact congrArg Value.bool (decide_eq_false (fun e => e kf20))) ?_
  refine WL_val rfl rfl rfl (R_pickF rfl rfl rfl) ?_
  refine WL_val rfl rfl rfl (R_move rfl rfl) ?_
  refine WL_val rfl rfl rfl (R_move rfl rfl) ?_
  refine WL_val rfl rfl rfl (R_move rfl rfl) ?_
  refine WL_do rfl rfl rfl (D_call (up_ok hkc12 kc12b hks9 ks9b) rfl rfl rfl rfl (pqD)) ?_
  rintro _ _ ⟨_, ⟨gkc13, gks10, hkc13, hks10, rfl, rfl⟩, rfl⟩
  refine WL_set (s := 103) (v := .bool true) rfl (by exact congrArg Value.bool (decide_eq_true kf21)) ?_
  have hkc13 : CGd gkc13 b1 kc13 := hkc13
  have hks10 : SGd gks10 b2 ks10 := hks10
  refine WL_val rfl rfl rfl (R_not rfl rfl) ?_
  refine WL_val rfl rfl rfl (R_pickF rfl rfl rfl) ?_
  refine WL_val rfl rfl rfl (R_move rfl rfl) ?_
  refine WL_val rfl rfl rfl (R_move rfl rfl) ?_
  refine WL_do rfl rfl rfl (D_call (k_cancel hkc13 kc13b 3) rfl rfl rfl rfl (pqD)) ?_
  rintro _ _ ⟨_, ⟨gkc14, hkc14, rfl, rfl⟩, rfl⟩
  have hkc14 : CGd gkc14 b1 kc14 := hkc14
  refine WL_val rfl rfl rfl (R_neq rfl rfl rfl) ?_
  refine WL_set (s := 109) (v := .bool false) rfl (by exact congrArg Value.bool (decide_eq_false (fun e => e kf22))) ?_
  refine WL_val rfl rfl rfl (R_pickF rfl rfl rfl) ?_
  refine WL_val rfl rfl rfl (R_move rfl rfl) ?_
  refine WL_val rfl rfl rfl (R_move rfl rfl) ?_
  refine WL_do rfl rfl rfl (D_call (ends_ok hkc14 kc14b 3 14 _ (fun r hr => of_decide_eq_true (List.all_eq_true.1 kf24 r hr))) rfl rfl rfl rfl (pqD)) ?_
  rintro _ _ ⟨_, ⟨gkc15, hkc15, rfl, rfl⟩, rfl⟩
  refine WL_set (s := 113) (v := .bool true) rfl (by exact congrArg Value.bool kf23) ?_
  have hkc15 : CGd gkc15 b1 kc15 := hkc15
  refine WL_val rfl rfl rfl (R_not rfl rfl) ?_
  refine WL_val rfl rfl rfl (R_pickF rfl rfl rfl) ?_
  refine WL_nil ?_
  refine WQ_code ?_
  refine WC_F rfl ?_
  refine WC_skip ?_
  refine WQ_code ?_
  refine WC_seq ?_
  refine WC_region ?_
  refine WL_val rfl rfl rfl (R_move rfl rfl) ?_
  refine WL_do rfl rfl rfl (D_call (s_next0 hks10 ks10b kf25) rfl rfl rfl rfl (pqD)) ?_
  rintro _ _ ⟨_, ⟨gl9, hl9, rfl, rfl⟩, rfl⟩
  refine WL_val rfl rfl rfl (R_move rfl rfl) ?_
  refine WL_val rfl rfl rfl (R_extract rfl rfl rfl) ?_
  refine WL_val rfl rfl rfl (R_extract rfl rfl rfl) ?_
  refine WL_do rfl rfl rfl (D_alloc rfl zv67) ?_
  rintro _ _ ⟨b5, rfl, rfl⟩
  refine WL_do0 rfl rfl (D_store (vs := [_, _, _]) rfl Tryz.sizeOf67 rfl rfl rfl rfl rfl (plD) (by exact Nat.le_of_ble_eq_true rfl)) ?_
  rintro _ _ rfl
  refine WL_val rfl rfl rfl (R_assign rfl rfl) ?_
  refine WL_nil ?_
  refine WQ_code ?_
  refine WC_seq ?_
  refine WC_region ?_
  refine WL_val rfl rfl rfl (R_move rfl rfl) ?_
  refine WL_val rfl rfl rfl (R_not rfl rfl) ?_
  refine WL_val rfl rfl rfl (R_assign rfl rfl) ?_
  refine WL_nil ?_
  refine WQ_code ?_
  refine WC_ret ?_
  refine WQ_ret rfl rfl (.cons (.tmp rfl) .nil) rfl (by
      exact ⟨rfl, rfl⟩) (pqD)
end Go.Proofs.YtdelhikejgoffaaGreat
end
section
set_option linter.unusedVariables false
set_option maxRecDepth 20000
set_option maxHeartbeats 1000000
namespace Go.Proofs.YtdelhikejgoffaaGreat
theorem sv0 (M : Heap) : SvR ([⟨none, cl [] 5⟩] ++ M) ⟨none, 0, none, 0, [], none, 0, none, 0⟩ pv0 :=
  ⟨RdM.none none (List.mem_cons_self ..), RdM.none none (List.mem_cons_self ..), rfl, (fun r hr => by cases hr), RdM.none none (List.mem_cons_self ..), RdM.none none (List.mem_cons_self ..), Nat.le_refl _, Nat.le_refl _, Nat.le_refl _⟩
theorem lw0 : LwI 0 pv0 := ⟨⟨⟨by decide, List.nodup_nil, (fun i hi => by cases hi), (fun r hr => by cases hr), by decide⟩, Nat.le_refl _, Nat.le_refl _, fun r hr => by cases hr⟩, fun _ => rfl⟩
structure SvW where
  i : Nat
  g : SG
  p : Nat
  u : PV
  m : SvV
  N : Heap
end Go.Proofs.YtdelhikejgoffaaGreat
end
section
set_option linter.unusedVariables false
set_option maxRecDepth 20000
set_option maxHeartbeats 8000000
namespace Go.Proofs.YtdelhikejgoffaaGreat
theorem serves_do (hfull : WFullOk) (l : List Ac) (hl : l.length ≤ 9223372036854775807) {ol : Option Addr} {cl9 : Nat} (DH : Heap) (hdat : ∀ m ∈ l, RdM encY DH m.oa m.data) (hlst : LstM DH ol l) : Spec Tryz.prog 3 [.slice ol l.length cl9] DH (fun r H' => r = .bool true ∧ H' = DH) := by
  refine Spec.of (E := [(0, .slice ol l.length cl9)]) Tryz.func3 rfl (by kernel_rfl) Tryz.ntmps3 rfl rfl (fun w => ?_)
  refine WC_seq ?_
  refine WC_region ?_
  refine WL_val rfl rfl rfl (R_assign rfl rfl) ?_
  refine WL_nil ?_
  refine WQ_code ?_
  refine WC_seq ?_
  refine WC_seq ?_
  refine WC_region ?_
  refine WL_val rfl rfl rfl (R_move rfl rfl) ?_
  refine WL_do rfl rfl rfl (D_call (few_ok DH l hl hlst) rfl rfl rfl rfl (pqD)) ?_
  rintro _ _ ⟨_, ⟨bq, rfl, hbq, rfl⟩, rfl⟩
  refine WL_val rfl rfl rfl (R_not rfl rfl) ?_
  refine WL_nil ?_
  refine WQ_code ?_
  refine WC_if rfl (fun c1 => ?_) (fun c1 => ?_)
  · refine WC_seq ?_
    refine WC_region ?_
    refine WL_do rfl rfl rfl (D_call (known_ok) rfl rfl rfl rfl (pqD)) ?_
    rintro _ _ ⟨_, ⟨rfl, rfl⟩, rfl⟩
    refine WL_val rfl rfl rfl (R_assign rfl rfl) ?_
    refine WL_nil ?_
    refine WQ_code ?_
    refine WC_ret ?_
    refine WQ_ret rfl rfl (.cons (.tmp rfl) .nil) rfl (by
        exact ⟨rfl, rfl⟩) (pqD)
  · have hbt : bq = true := by simpa using c1
    obtain ⟨hl40, hsz⟩ := hbq hbt
    refine WC_skip ?_
    refine WQ_code ?_
    refine WC_seq ?_
    refine WC_region ?_
    refine WL_val rfl rfl rfl (R_build rfl zv35 pl35 rfl rfl) ?_
    refine WL_do rfl rfl rfl (D_box (cs := [_, _, _, _, _, _, _]) rfl rfl rfl) ?_
    rintro _ _ ⟨b1, rfl, rfl⟩
    obtain ⟨gpv0, hpv0, hx1⟩ := s_new b1
    refine WL_turn hx1 plD ?_
    refine WL_val rfl rfl rfl (R_build rfl zv37 pl37 rfl rfl) ?_
    refine WL_do rfl rfl rfl (D_alloc rfl zv37) ?_
    rintro _ _ ⟨b2, rfl, rfl⟩
    refine WL_val rfl rfl rfl (R_assign rfl rfl) ?_
    refine WL_do0 rfl rfl (D_store (vs := [_, _, _, _, _, _]) rfl Tryz.sizeOf37 rfl rfl rfl rfl rfl (plD) (by exact Nat.le_of_ble_eq_true rfl)) ?_
    rintro _ _ rfl
    refine WL_nil ?_
    refine WQ_code ?_
    refine WC_seq ?_
    refine WC_seq ?_
    refine WC_region ?_
    refine WL_val rfl rfl rfl (R_assign rfl rfl) ?_
    refine WL_nil ?_
    refine WQ_code ?_
    refine WC_block ?_
    refine WC_none 5 ?_
    refine WC_loopF (G := SvW) [2, 3, 5, 6, 7, 8, 16, 17, 18, 19, 20, 21, 22, 23, 24, 25, 26, 27, 28, 29, 30, 31, 32, 33, 34, 35, 36, 37, 38, 39, 40, 41, 42, 43, 44, 45, 46, 47, 48] (fun y => y.i ≤ l.length ∧ SGd y.g y.p y.u ∧ LwI y.i y.u ∧ SvR (y.N ++ DH) y.m y.u) (fun y => [(5, .int .i64 (y.i : Int)), (3, ptrC y.p)]) (fun y => [⟨some b2, cl (svc y.m y.u y.u.br) 37⟩] ++ sH y.g ++ (y.N ++ DH)) (fun y => l.length - y.i) (⟨0, gpv0, b1, pv0, ⟨none, 0, none, 0, [], none, 0, none, 0⟩, [⟨none, cl [] 5⟩]⟩) (⟨Nat.zero_le _, hpv0, lw0, sv0 DH⟩) leZ (pqD) ?_
    rintro y ⟨hyi, hg, hI, hS⟩
    refine WC_seq ?_
    refine WC_seq ?_
    refine WC_region ?_
    refine WL_val rfl rfl rfl (R_move rfl rfl) ?_
    refine WL_val rfl rfl rfl (R_move rfl rfl) ?_
    refine WL_val rfl rfl rfl (R_len rfl Tryz.underlying22 rfl) ?_
    refine WL_val rfl rfl rfl (R_lss rfl rfl rfl) ?_
    refine WL_nil ?_
    refine WQ_code ?_
    refine WC_dec rfl (fun c2 => ?_) (fun c2 => ?_)
    · refine WC_skip ?_
      refine WQ_code ?_
      refine WC_seq ?_
      refine WC_block ?_
      refine WC_seq ?_
      refine WC_drawBR ([] ++ sH y.g) [(0, .q), (1, .q), (2, .q), (3, .q), (4, .q), (5, .q), (6, .n [11]), (7, .q), (8, .q), (9, .q), (10, .q), (11, .b []), (12, .q), (13, .n []), (14, .q)] followsMixed rfl rfl (by kernel_rfl) (pqD) ?_
      obtain ⟨mv, hmv⟩ := getE (T := l) (i := y.i) (by omega)
      obtain ⟨lb, lk, lcs, le, lfr, rfl, hlm, hlat⟩ := hlst (by omega)
      have hI2 := hI.act (by omega) (hsz mv (List.mem_of_getElem? hmv))
      refine WB_val rfl rfl rfl rfl (R_move rfl rfl) ?_
      refine WB_val rfl rfl rfl rfl (R_loadA (vs := [_, _, _, _, _, _]) rfl ag37 rfl (mmD) rfl (atZ)) ?_
      refine WB_val rfl rfl rfl rfl (R_move rfl rfl) ?_
      refine WB_val rfl rfl rfl rfl (R_move rfl rfl) ?_
      refine WB_val rfl rfl rfl rfl (R_indexAddr rfl Tryz.underlying22 Tryz.sizeOf43 rfl rfl (by omega)) ?_
      refine WB_val rfl rfl rfl rfl (R_loadAG (vs := encAc mv) rfl ag43 rfl (pulls_mem (pqD : Pulls DH _ _) hlm) rfl (hlat y.i mv hmv)) ?_
      refine WB_do rfl rfl rfl rfl (.cons rfl rfl (B_alloc rfl zv37) .nil) (fun _ => D_call (server_ok hfull hg hI (by omega) hS mv ((hdat mv (List.mem_of_getElem? hmv)).up y.N) (hsz mv (List.mem_of_getElem? hmv))) rfl rfl rfl rfl (pqD)) ?_
      rintro _ _ ⟨_, ⟨p', g', m2, N2, hg', hS2, rfl, rfl⟩, rfl⟩
      refine ⟨⟨_, pqD⟩, ?_⟩
      refine WB_val rfl rfl rfl rfl (R_move rfl rfl) ?_
      refine WB_val rfl rfl rfl rfl (R_extract rfl rfl rfl) ?_
      refine WB_val rfl rfl rfl rfl (R_extract rfl rfl rfl) ?_
      refine WB_val rfl rfl rfl rfl (R_extract rfl rfl rfl) ?_
      refine WB_birth rfl rfl rfl rfl .nil (B_alloc rfl zv37) (fun b3 => ?_)
      refine WB_val rfl rfl rfl rfl (R_assign rfl rfl) ?_
      refine WB_do0 rfl rfl rfl .nil (fun _ => D_store (vs := [_, _, _, _, _, _]) rfl Tryz.sizeOf37 rfl rfl rfl rfl rfl (plD) (by exact Nat.le_of_ble_eq_true rfl)) ?_
      rintro _ _ rfl
      refine ⟨⟨_, pqD⟩, ?_⟩
      refine WB_val rfl rfl rfl rfl (R_assign rfl rfl) ?_
      refine WB_nil ?_
      refine WQ_code ?_
      refine WC_seq ?_
      refine WC_seq ?_
      refine WC_draw _ [(0, true), (1, true), (2, true), (3, true), (4, true), (5, true), (6, true), (7, true), (9, true), (10, true), (8, false), (11, false), (12, true), (13, true)] followsMixed rfl rfl (by kernel_rfl) .all ?_
      refine WM_val rfl rfl rfl rfl (R_move rfl rfl) ?_
      refine WM_val rfl rfl rfl rfl (R_ptrEqNil rfl Tryz.underlying25 rfl) ?_
      refine WM_val rfl rfl rfl rfl (R_move rfl rfl) ?_
      refine WM_val rfl rfl rfl rfl (R_move rfl rfl) ?_
      refine WM_val rfl rfl rfl rfl (R_not rfl rfl) ?_
      refine WM_val rfl rfl rfl rfl (R_pickF rfl rfl rfl) ?_
      refine WM_val rfl rfl rfl rfl (R_move rfl rfl) ?_
      refine WM_val rfl rfl rfl rfl (R_move rfl rfl) ?_
      refine WM_val rfl rfl rfl rfl (R_fieldAddr rfl fa37_1 rfl) ?_
      refine WM_val rfl rfl rfl rfl (R_load rfl sc32 rfl (mmD) rfl) ?_
      refine WM_do rfl rfl rfl rfl (D_call (s_open hg' (hI2.pvb (by omega))) rfl rfl rfl rfl (pqD)) ?_
      rintro _ _ ⟨_, ⟨oq, cq, tq, rfl, ownq, rfl⟩, rfl⟩
      refine ⟨⟨_, pqD⟩, ?_⟩
      refine WM_do rfl rfl rfl rfl (D_call (ints_ok (M := [⟨oq, cl (ivs (y.u.act mv).opn ++ tq) 3⟩] ++ (N2 ++ (y.N ++ DH))) (RdM.own (e := 3) ownq _) (hS2.opn.up [⟨oq, cl (ivs (y.u.act mv).opn ++ tq) 3⟩]) (by have := hI2.b.J.opn; omega) (by have := hI2.b.J.opn; omega)) rfl rfl rfl rfl (pqD)) ?_
      rintro _ _ ⟨_, ⟨rfl, rfl⟩, rfl⟩
      refine ⟨⟨_, pqD⟩, ?_⟩
      refine WM_set (s := 44) (v := .bool true) rfl (by exact congrArg Value.bool (decide_eq_true rfl)) ?_
      refine WM_val rfl rfl rfl rfl (R_not rfl rfl) ?_
      refine WM_val rfl rfl rfl rfl (R_pickF rfl rfl rfl) ?_
      refine WM_nil ?_
      refine WQ_code ?_
      refine WC_F rfl ?_
      refine WC_skip ?_
      refine WQ_code ?_
      refine WC_drawR [⟨some b2, _⟩] [(0, true), (1, true), (2, true), (3, false)] followsMixed rfl rfl (by kernel_rfl) (pqD) ?_
      refine WM_val rfl rfl rfl rfl (R_move rfl rfl) ?_
      refine WM_val rfl rfl rfl rfl (R_loadA (vs := [_, _, _, _, _, _]) rfl ag37 rfl (mmD) rfl (atZ)) ?_
      refine WM_val rfl rfl rfl rfl (R_assign rfl rfl) ?_
      refine WM_do0 rfl rfl rfl (D_store (vs := [_, _, _, _, _, _]) rfl Tryz.sizeOf37 rfl rfl rfl rfl rfl (plD) (by exact Nat.le_of_ble_eq_true rfl)) ?_
      rintro _ _ rfl
      refine ⟨⟨_, pqD⟩, ?_⟩
      refine WM_nil ?_
      refine WQ_code ?_
      refine WC_region ?_
      refine WL_val rfl rfl rfl (R_move rfl rfl) ?_
      refine WL_val rfl rfl rfl (R_add rfl rfl rfl (by omega)) ?_
      refine WL_val rfl rfl rfl (R_assign rfl rfl) ?_
      refine WL_nil ?_
      refine WQ_nextF (gg := y) (⟨y.i + 1, g', p', y.u.act mv, m2, N2 ++ y.N⟩) (⟨by dsimp only; omega, hg', hI2, by rw [List.append_assoc]; exact hS2⟩) (by dsimp only; omega) leZ (psZ) rfl (pqD)
    · refine WC_exit ?_
      refine WQ_code ?_
      refine WC_seq ?_
      refine WC_region ?_
      refine WL_do rfl rfl rfl (D_call (known_ok) rfl rfl rfl rfl (pqD)) ?_
      rintro _ _ ⟨_, ⟨rfl, rfl⟩, rfl⟩
      refine WL_val rfl rfl rfl (R_assign rfl rfl) ?_
      refine WL_nil ?_
      refine WQ_code ?_
      refine WC_ret ?_
      refine WQ_ret rfl rfl (.cons (.tmp rfl) .nil) rfl (by
          exact ⟨rfl, rfl⟩) (pqD)
end Go.Proofs.YtdelhikejgoffaaGreat
end
section
set_option linter.unusedVariables false
set_option linter.unusedSectionVars false
set_option linter.unusedSimpArgs false
namespace Go.Proofs.YtdelhikejgoffaaGreat
open Go.RowKit (Below)
section
variable {X : Ctx} {ops : Array Oper} {p : Post} [NoPan p] {C : World → Prop} {L : Nat}
theorem wpOpIn_toQ {p' : Post} [NoPan p'] {j : Nat} {oj : Oper} {K : Act → World → Prop} {a : Act} {w : World} (hj : ops[j]? = some oj) (hdj : ∀ c, oj.op ≠ .defer c)
    (h : wpOpIn (fen X.ro) 0 X.P ops p'.toQ j K a w) : wpOpIn (fen X.ro) 0 X.P ops p.toQ j K a w := by
  unfold wpOpIn at *
  simp only [hj] at *
  split
  · rename_i hw
    simp only [hw, if_true] at h
    unfold Oper.wpIn at *
    refine ⟨about_true, ?_⟩
    have h := h.2
    rw [semAt_of hdj] at h
    rw [semAt_of hdj]
    generalize (execOp a.eval oj).run X.P w = r at *
    cases r with
    | ok x w' =>
      cases x <;> simp only [Oper.uponIn] at h ⊢
      case value u => exact h
      case skip => exact h
      case defer d => exact h
      case enter f args =>
        refine ⟨h.1, CallsIn.mono h.2 fun e w'' he => ?_⟩
        cases e with
        | returned u => exact he
        | panicked c => exact (NoPan.pan (p := p') _ _ _ he).elim
        | outgrown => exact he
      case row row args => exact ⟨h.1, RowsIn.mono h.2 fun u w'' he => he⟩
      case round l f tmps assign body =>
        refine ⟨h.1, RoundIn.mono h.2 fun e w'' he => ?_⟩
        cases e with
        | returned u => exact he
        | panicked c => exact (NoPan.pan (p := p') _ _ _ he).elim
        | outgrown => exact he
    | halt x w' =>
      cases x <;> simp only [Oper.uponIn] at h ⊢
      case panic u => exact (NoPan.pan (p := p') _ _ _ h).elim
  · rename_i hw
    simp only [hw] at h
    exact ⟨about_true, h.2⟩
theorem gd_ne {l : Array Bool} {j k : Nat} {b d : Bool} (h : j ≠ k) : (l.setIfInBounds j b).getD k d = l.getD k d := by
  simp [Array.getD_eq_getD_getElem?, Array.getElem?_setIfInBounds, h]
theorem gd_eq {l : Array Bool} {j : Nat} {b d : Bool} (h : j < l.size) : (l.setIfInBounds j b).getD j d = b := by
  simp [Array.getD_eq_getD_getElem?, Array.getElem?_setIfInBounds, h]
theorem gd_in {l : Array Bool} {j : Nat} (h : j < l.size) (d d' : Bool) : l.getD j d = l.getD j d' := by
  simp [Array.getD_eq_getD_getElem?, h]
structure LastOk (ops : Array Oper) (L : Nat) : Prop where
  size : ops.size = L + 1
  lt : ∀ (i : Nat) (o : Oper), ops[i]? = some o → ∀ e ∈ o.after, e.on < i
  anc : ∀ k, k < L → ∃ n, reach ops k n L = true
def lastB (ops : Array Oper) (L : Nat) : Bool :=
  ops.size == L + 1 && ((List.range (L + 1)).all fun i => match ops[i]? with | some o => o.after.all (fun e => Nat.blt e.on i) | none => true) && (List.range L).all (fun k => reach ops k ops.size L)
theorem lastB_spec (h : lastB ops L = true) : LastOk ops L := by
  simp only [lastB, Bool.and_eq_true, beq_iff_eq, List.all_eq_true, List.mem_range] at h
  obtain ⟨⟨h1, h2⟩, h3⟩ := h
  refine ⟨h1, fun i o ho e he => ?_, fun k hk => ⟨_, h3 k hk⟩⟩
  have hi := (Array.getElem?_eq_some_iff.1 ho).1
  have h4 := h2 i (by omega)
  rw [ho] at h4
  simp only [Array.all_eq_true] at h4
  obtain ⟨j, hj, rfl⟩ := Array.mem_iff_getElem.1 he
  exact Nat.le_of_ble_eq_true (h4 j hj)
structure StL (ops : Array Oper) (L : Nat) (l : Array Bool) : Prop where
  size : l.size = L + 1
  on : l.getD L true = true
  cl : Closed ops (l.setIfInBounds L false)
theorem StL.sub {l : Array Bool} {i : Nat} (hO : LastOk ops L) (hs : StL ops L l) (h : i ∈ Region.ready .any ops (l.setIfInBounds L false)) (hi : i ≠ L) : i ∈ Region.ready .any ops l := by
  obtain ⟨h1, o, ho, hd⟩ := mem_ready.1 h
  refine mem_ready.2 ⟨by rwa [gd_ne (fun e => hi e.symm)] at h1, o, ho, fun e he hb => ?_⟩
  have h2 := hd e he hb
  by_cases hL : L = e.on
  · subst hL; rw [gd_eq (by have := hs.size; omega)] at h2; cases h2
  · rwa [gd_ne hL] at h2
theorem StL.sup {l : Array Bool} {i : Nat} (hO : LastOk ops L) (hs : StL ops L l) (h : i ∈ Region.ready .any ops l) : i ≠ L ∧ i < L ∧ i ∈ Region.ready .any ops (l.setIfInBounds L false) := by
  obtain ⟨h1, o, ho, hd⟩ := mem_ready.1 h
  have hi : i ≠ L := fun e => by rw [e, hs.on] at h1; cases h1
  have hlt := (Array.getElem?_eq_some_iff.1 ho).1
  have hsz := hO.size
  refine ⟨hi, by omega, mem_ready.2 ⟨by rw [gd_ne (fun e => hi e.symm)]; exact h1, o, ho, fun e he hb => ?_⟩⟩
  have := hO.lt i o ho e he
  rw [gd_ne (by omega)]
  exact hd e he hb
theorem StL.none {l : Array Bool} (hO : LastOk ops L) (hs : StL ops L l) (h : L ∈ Region.ready .any ops (l.setIfInBounds L false)) : Region.ready .any ops l = [] := by
  refine List.eq_nil_iff_forall_not_mem.2 fun j hj => ?_
  obtain ⟨h1, h2, _⟩ := hs.sup hO hj
  obtain ⟨_, o, ho, hd⟩ := mem_ready.1 h
  obtain ⟨n, hn⟩ := hO.anc j h2
  have h3 := Closed.reach hs.cl j n L o ho (fun e he hb => getD_up (hd e he hb)) hn
  rw [gd_ne (fun e => h1 e.symm), (mem_ready.1 hj).1] at h3
  cases h3
theorem StL.all {l : Array Bool} (hO : LastOk ops L) (hs : StL ops L l) (h : Region.ready .any ops l = []) : ∀ k, k ≤ L → l.getD k true = true := by
  intro k
  induction k using Nat.strongRecOn with
  | ind k ih =>
    intro hk
    by_cases hkL : k = L
    · rw [hkL]; exact hs.on
    · cases hc : l.getD k true with
      | true => rfl
      | false =>
        have hsz := hO.size
        obtain ⟨o, ho⟩ : ∃ o, ops[k]? = some o := ⟨_, Array.getElem?_eq_getElem (by omega)⟩
        have : k ∈ Region.ready .any ops l := mem_ready.2 ⟨hc, o, ho, fun e he hb => by
          have h1 := hO.lt k o ho e he
          rw [gd_in (by have := hs.size; omega) false true]
          exact ih e.on h1 (by omega)⟩
        rw [h] at this
        cases this
theorem StL.fin {l : Array Bool} (hO : LastOk ops L) (hs : StL ops L l) (h : Region.ready .any ops l = []) :
    L ∈ Region.ready .any ops (l.setIfInBounds L false) ∧ (∀ i ∈ Region.ready .any ops (l.setIfInBounds L false), i = L) ∧ Region.ready .any ops ((l.setIfInBounds L false).setIfInBounds L true) = [] := by
  have hall := hs.all hO h
  have hsz := hO.size
  have hls := hs.size
  refine ⟨?_, fun i hi => ?_, List.eq_nil_iff_forall_not_mem.2 fun j hj => ?_⟩
  · obtain ⟨o, ho⟩ : ∃ o, ops[L]? = some o := ⟨_, Array.getElem?_eq_getElem (by omega)⟩
    refine mem_ready.2 ⟨gd_eq (by omega), o, ho, fun e he hb => ?_⟩
    have h1 := hO.lt L o ho e he
    rw [gd_ne (by omega), gd_in (by omega) false true]
    exact hall e.on (by omega)
  · by_cases e : i = L
    · exact e
    · have := hs.sub hO hi e; rw [h] at this; cases this
  · obtain ⟨h1, o, ho, _⟩ := mem_ready.1 hj
    have hlt := (Array.getElem?_eq_some_iff.1 ho).1
    by_cases e : L = j
    · subst e; rw [gd_eq (by rw [Array.size_setIfInBounds]; omega)] at h1; cases h1
    · rw [gd_ne e, gd_ne e, hall j (by omega)] at h1; cases h1
theorem any_last (hO : LastOk ops L) (hsd : noSD ops = true) : ∀ (n : Nat) (l : Array Bool) (a : Act) (w : World), StL ops L l →
    AnyC X ops (Post.to (fun a w => wpOpIn (fen X.ro) 0 X.P ops p.toQ L p.nrm a w) p) C n l a w → wpAnyIn (fen X.ro) 0 X.P .any ops p.toQ (n + 1) (l.setIfInBounds L false) a w := by
  intro n
  induction n with
  | zero =>
    intro l a w hs h
    obtain ⟨f1, f2, f3⟩ := hs.fin hO h.1
    refine ⟨fun e => (by rw [e] at f1; cases f1), fun i hi => ?_⟩
    rw [f2 i hi]
    exact wpOpIn_mono (fun a' w' k => ⟨f3, k⟩) h.2
  | succ n ih =>
    intro l a w hs h
    by_cases hr : Region.ready .any ops l = []
    · obtain ⟨f1, f2, f3⟩ := hs.fin hO hr
      refine ⟨fun e => (by rw [e] at f1; cases f1), fun i hi => ?_⟩
      rw [f2 i hi]
      exact wpOpIn_mono (fun a' w' k => ⟨fun _ => k, fun j hj => (by rw [f3] at hj; cases hj)⟩) (h.1 hr)
    · refine ⟨fun e => ?_, fun i hi => ?_⟩
      · obtain ⟨j, hj⟩ := List.exists_mem_of_ne_nil _ hr
        have := (hs.sup hO hj).2.2
        rw [e] at this; cases this
      · have hiL : i ≠ L := fun e => hr (hs.none hO (e ▸ hi))
        have hi2 := hs.sub hO hi hiL
        obtain ⟨_, o, ho, _⟩ := mem_ready.1 hi2
        have h2 := wpOpIn_toQ (p := p) ho (noSD_sel hsd ho).2 (h.2 i hi2)
        refine wpOpIn_mono (fun a' w' k => ?_) h2
        have hcm : (l.setIfInBounds i true).setIfInBounds L false = (l.setIfInBounds L false).setIfInBounds i true := Array.setIfInBounds_comm _ _ hiL
        have h3 := ih (l.setIfInBounds i true) a' w' ⟨by rw [Array.size_setIfInBounds]; exact hs.size, by rw [gd_ne hiL]; exact hs.on, by rw [hcm]; exact hs.cl.step hi⟩ (k.2 w' (Bel.refl _))
        rw [hcm] at h3
        exact h3
end
section
variable {X : Ctx} {ops : Array Oper} {p : Post} {Hq : Heap} {E : Env} {H F : Heap} {o : Oper} {ps : List (Nat × Nat × Value)} {L : Nat}
theorem rep_set {n L : Nat} : ((Array.replicate n false).setIfInBounds L true).setIfInBounds L false = Array.replicate n false := by
  apply Array.ext
  · simp
  · intro i h1 h2
    have e1 : (((Array.replicate n false).setIfInBounds L true).setIfInBounds L false)[i]? = (Array.replicate n false)[i]? := by
      by_cases h : L = i
      · subst h
        have hi : L < n := by simpa using h2
        simp [Array.getElem?_setIfInBounds, hi]
      · simp [Array.getElem?_setIfInBounds, h]
    rw [Array.getElem?_eq_getElem h1, Array.getElem?_eq_getElem h2] at e1
    exact Option.some.inj e1
theorem WC_drawL [NoPan p] {id : Nat} {l : List Oper} (L : Nat) (xs : Heap) (ps : List (Nat × Nat × Value)) (ord : List (Nat × Tag)) (hm : X.P.follows .mixedOrders = true) (hsd : noSD l.toArray = true) (hlast : lastB l.toArray L = true) (hlen : ord.length = L)
    (hB : orderW l.toArray ord ((Array.replicate l.length false).setIfInBounds L true) = true) (hq : Pulls xs H Hq) (hp : PtH H ps)
    (h : WX X l.toArray (Post.to (fun a w => wpOpIn (fen X.ro) 0 X.P l.toArray p.toQ L p.nrm a w) p) ps Hq ord E H) : WC X (.region id l.toArray true) p E H := by
  intro a w ha hw
  have hO := lastB_spec hlast
  have hsz : l.length = L + 1 := by have := hO.size; simpa using this
  refine wpIn_region_any hm ?_
  have hb : Bel w { w with drawn := w.drawn + 1 } := Bel.drew' w
  have hw1 := hw.bel hb
  have h1 := BW.any (X := X) (p := Post.to (fun a w => wpOpIn (fen X.ro) 0 X.P l.toArray p.toQ L p.nrm a w) p) (C := CX X ps Hq) (fun _ h => h.1.size) (fun _ _ h b => ⟨h.1.bel b, h.2.bel b⟩) hsd ord _ hB ord.length [] a _ (fun k => k ∈ keys H) (by simp)
    ⟨fun e h => (by cases h), List.nodup_nil, fun e h => (by cases h), fun e h => (by cases h), fun e h => (by cases h), ⟨pulls_rest hq hw1, hp.here hw1⟩, fun k hk => hw1.hok.lt hk⟩
    (fun w' hb' => h a _ _ (fun _ => Iff.rfl) ha (hw1.bel hb'))
  have h2 := any_last hO hsd ord.length _ _ _ ⟨by rw [Array.size_setIfInBounds]; simpa using hsz, gd_eq (by simp; omega), by rw [rep_set]; exact closed0 l⟩ h1
  rw [rep_set, hlen] at h2
  simpa [marks, puts, hsz] using h2
theorem WQ_last0 {R : Value → Heap → Prop} (ho : ops[L]? = some o) (hg : wantedE ops E o = some true) (hd : o.dst = none) (h : Does X o E H R) (k : ∀ v H', R v H' → WQ X p.nrm E H') :
    WQ X (Post.to (fun a w => wpOpIn (fen X.ro) 0 X.P ops p.toQ L p.nrm a w) p).nrm E H := by
  intro a w ha hw
  show wpOpIn (fen X.ro) 0 X.P ops p.toQ L p.nrm a w
  simp only [wpOpIn, ho, wantedE_spec ha hg, if_true]
  exact h a w ha hw _ _ fun v H' w' hr hw' => k v H' hr _ _ (by rw [hd]; exact ha.put0 v) hw'
end
end Go.Proofs.YtdelhikejgoffaaGreat
end
section
set_option linter.unusedVariables false
set_option maxRecDepth 20000
set_option maxHeartbeats 4000000
namespace Go.Proofs.YtdelhikejgoffaaGreat
theorem wrq_full {M : Heap} {m : SvV} {u : PV} (h : SvR M m u) (hJ : PVJ u) (k : UInt8) {body : Bs} {oa : Option Addr} {c : Nat} (hr : RdM encY M oa body) (hc : body.length ≤ c) (hl : body.length ≤ 1024) (hout : u.out.length ≤ 900000) (hJ2 : u.qu.length ≤ 900000) (h4 : ¬ body.length < 4) (hk : k.toNat = 16) (h12 : 12 ≤ body.length) (hid : valB (body.take 4) = u.last + 1) (hf : 32 ≤ u.opn.length) : Spec Tryz.prog 57 [svv m u, .agg #[.int .u8 (k.toNat : Int), .slice oa body.length c]] M (RqP M ({ u with last := u.last + 1, out := u.out ++ encF 17 (bigB (u.last + 1) 4 ++ [0, 7]) }, 0)) := by
  have hJ3 := hJ.last
  have hb4 := bigB_len (u.last + 1) 4
  refine Spec.of (E := [(0, svv m u), (1, .agg #[.int .u8 (k.toNat : Int), .slice oa body.length c])]) Tryz.func57 rfl (by kernel_rfl) Tryz.ntmps57 rfl rfl (fun w => ?_)
  refine WC_seq ?_
  refine WC_region ?_
  refine WL_do rfl rfl rfl (D_box (cs := [_, _, _, _, _, _]) rfl rfl rfl) ?_
  rintro _ _ ⟨b1, rfl, rfl⟩
  refine WL_do rfl rfl rfl (D_box (cs := [_, _]) rfl rfl rfl) ?_
  rintro _ _ ⟨b2, rfl, rfl⟩
  refine WL_do rfl rfl rfl (D_alloc rfl zv37) ?_
  rintro _ _ ⟨b3, rfl, rfl⟩
  refine WL_val rfl rfl rfl (R_assign rfl rfl) ?_
  refine WL_nil ?_
  refine WQ_code ?_
  refine WC_seq ?_
  refine WC_region ?_
  refine WL_val rfl rfl rfl (R_fieldAddr rfl fa112_1 rfl) ?_
  refine WL_val rfl rfl rfl (R_load rfl sc26 rfl (mmD) rfl) ?_
  refine WL_val rfl rfl rfl (R_len rfl Tryz.underlying26 rfl) ?_
  refine WL_val rfl rfl rfl (R_assign rfl rfl) ?_
  refine WL_nil ?_
  refine WQ_code ?_
  refine WC_seq ?_
  refine WC_seq ?_
  refine WC_region ?_
  refine WL_val rfl rfl rfl (R_move rfl rfl) ?_
  refine WL_val rfl rfl rfl (R_lss rfl rfl rfl) ?_
  refine WL_set (s := 12) (v := .bool false) rfl (by exact congrArg Value.bool (decide_eq_false (by omega))) ?_
  refine WL_val rfl rfl rfl (R_move rfl rfl) ?_
  refine WL_val rfl rfl rfl (R_fieldAddr rfl fa112_0 rfl) ?_
  refine WL_val rfl rfl rfl (R_load rfl sc5 rfl (mmD) rfl) ?_
  refine WL_val rfl rfl rfl (R_neq rfl rfl rfl) ?_
  refine WL_set (s := 16) (v := .bool false) rfl (by exact congrArg Value.bool (decide_eq_false (by omega))) ?_
  refine WL_val rfl rfl rfl (R_move rfl rfl) ?_
  refine WL_skip rfl rfl rfl ?_
  refine WL_skip rfl rfl rfl ?_
  refine WL_skip rfl rfl rfl ?_
  refine WL_val rfl rfl rfl (R_pickF rfl rfl rfl) ?_
  refine WL_val rfl rfl rfl (R_pickF rfl rfl rfl) ?_
  refine WL_val rfl rfl rfl (R_move rfl rfl) ?_
  refine WL_val rfl rfl rfl (R_fieldAddr rfl fa112_0 rfl) ?_
  refine WL_val rfl rfl rfl (R_load rfl sc5 rfl (mmD) rfl) ?_
  refine WL_val rfl rfl rfl (R_eql rfl rfl rfl) ?_
  refine WL_set (s := 26) (v := .bool true) rfl (by exact congrArg Value.bool (decide_eq_true (by omega))) ?_
  refine WL_val rfl rfl rfl (R_move rfl rfl) ?_
  refine WL_val rfl rfl rfl (R_move rfl rfl) ?_
  refine WL_val rfl rfl rfl (R_lss rfl rfl rfl) ?_
  refine WL_set (s := 29) (v := .bool false) rfl (by exact congrArg Value.bool (decide_eq_false (by omega))) ?_
  refine WL_val rfl rfl rfl (R_pickT rfl rfl rfl) ?_
  refine WL_val rfl rfl rfl (R_pickF rfl rfl rfl) ?_
  refine WL_val rfl rfl rfl (R_move rfl rfl) ?_
  refine WL_val rfl rfl rfl (R_fieldAddr rfl fa112_0 rfl) ?_
  refine WL_val rfl rfl rfl (R_load rfl sc5 rfl (mmD) rfl) ?_
  refine WL_val rfl rfl rfl (R_eql rfl rfl rfl) ?_
  refine WL_set (s := 35) (v := .bool false) rfl (by exact congrArg Value.bool (decide_eq_false (by omega))) ?_
  refine WL_val rfl rfl rfl (R_move rfl rfl) ?_
  refine WL_skip rfl rfl rfl ?_
  refine WL_skip rfl rfl rfl ?_
  refine WL_val rfl rfl rfl (R_pickF rfl rfl rfl) ?_
  refine WL_val rfl rfl rfl (R_pickF rfl rfl rfl) ?_
  refine WL_nil ?_
  refine WQ_code ?_
  refine WC_F rfl ?_
  refine WC_skip ?_
  refine WQ_code ?_
  refine WC_seq ?_
  refine WC_region ?_
  refine WL_val rfl rfl rfl (R_fieldAddr rfl fa112_1 rfl) ?_
  refine WL_val rfl rfl rfl (R_load rfl sc26 rfl (mmD) rfl) ?_
  refine WL_val rfl rfl rfl (R_sliceTo (m := 4) rfl Tryz.underlying26 Tryz.sizeOf5 rfl rfl (by omega)) ?_
  refine WL_set (s := 44) (v := .slice oa (body.take 4).length c) rfl (by rw [show (body.take 4).length = 4 from by simp; omega]) ?_
  refine WL_do rfl rfl rfl (D_call (wval_s (hr.take 4) (by simp; omega)) rfl rfl rfl rfl (pqD)) ?_
  rintro _ _ ⟨_, ⟨rfl, rfl⟩, rfl⟩
  refine WL_val rfl rfl rfl (R_conv (r := (valB (body.take 4) : Int)) rfl Tryz.underlying40 Tryz.underlying3 rfl (by have := val4_lt body; rw [wrap64_in (by omega) (by omega)])) ?_
  refine WL_set (s := 46) (v := .int .i64 ((u.last + 1 : Nat) : Int)) rfl (by rw [hid]) ?_
  refine WL_val rfl rfl rfl (R_assign rfl rfl) ?_
  refine WL_nil ?_
  refine WQ_code ?_
  refine WC_seq ?_
  refine WC_seq ?_
  refine WC_region ?_
  refine WL_val rfl rfl rfl (R_fieldAddr rfl fa112_0 rfl) ?_
  refine WL_val rfl rfl rfl (R_load rfl sc5 rfl (mmD) rfl) ?_
  refine WL_val rfl rfl rfl (R_eql rfl rfl rfl) ?_
  refine WL_nil ?_
  refine WQ_code ?_
  refine WC_dF rfl (by omega) ?_
  refine WC_skip ?_
  refine WQ_code ?_
  refine WC_seq ?_
  refine WC_seq ?_
  refine WC_region ?_
  refine WL_val rfl rfl rfl (R_move rfl rfl) ?_
  refine WL_val rfl rfl rfl (R_fieldAddr rfl fa37_0 rfl) ?_
  refine WL_val rfl rfl rfl (R_load rfl sc3 rfl (mmD) rfl) ?_
  refine WL_val rfl rfl rfl (R_add rfl rfl rfl (by omega)) ?_
  refine WL_val rfl rfl rfl (R_neq rfl rfl rfl) ?_
  refine WL_nil ?_
  refine WQ_code ?_
  refine WC_dF rfl (by omega) ?_
  refine WC_skip ?_
  refine WQ_code ?_
  refine WC_seq ?_
  refine WC_region ?_
  refine WL_val rfl rfl rfl (R_move rfl rfl) ?_
  refine WL_val rfl rfl rfl (R_fieldAddr rfl fa37_0 rfl) ?_
  refine WL_do0 rfl rfl (D_store (vs := [_]) rfl Tryz.sizeOf3 rfl rfl rfl rfl rfl (plD) (by exact Nat.le_of_ble_eq_true rfl)) ?_
  rintro _ _ rfl
  refine WL_nil ?_
  refine WQ_code ?_
  refine WC_seq ?_
  refine WC_seq ?_
  refine WC_region ?_
  refine WL_val rfl rfl rfl (R_fieldAddr rfl fa37_1 rfl) ?_
  refine WL_val rfl rfl rfl (R_load rfl sc32 rfl (mmD) rfl) ?_
  refine WL_val rfl rfl rfl (R_len rfl Tryz.underlying32 rfl) ?_
  refine WL_val rfl rfl rfl (R_geq rfl rfl rfl) ?_
  refine WL_nil ?_
  refine WQ_code ?_
  refine WC_dT rfl (by omega) ?_
  refine WC_seq ?_
  refine WC_drawL 9 (⟨some b1, _⟩ :: []) [(b1, 3, .slice m.a3 u.out.length m.c3)] [(0, .q), (1, .q), (2, .q), (3, .q), (4, .n [5]), (5, .b []), (6, .n []), (7, .n []), (8, .q)] followsMixed rfl (by kernel_rfl) rfl (by kernel_rfl) (pqD) (.cons (mmD) rfl .nil) ?_
  refine WX_val rfl rfl rfl rfl (R_fieldAddr rfl fa37_3 rfl) ?_
  refine WX_load rfl rfl rfl rfl rfl sc26 rfl (by repeat (first | exact List.Mem.head _ | refine List.Mem.tail _ ?_)) ?_
  refine WX_val rfl rfl rfl rfl (R_move rfl rfl) ?_
  refine WX_val rfl rfl rfl rfl (R_conv (r := ((u.last + 1 : Nat) : Int)) rfl Tryz.underlying3 Tryz.underlying40 rfl (by rw [w64 ⟨by omega, by omega⟩])) ?_
  refine WX_do rfl rfl rfl rfl (.cons rfl rfl (B_buildSlice rfl si26 rfl rfl rfl) .nil) (fun _ => D_call (wbig_ok (u.last + 1) 4 (by omega) (by decide)) rfl rfl rfl rfl (pqD)) ?_
  rintro _ _ ⟨_, ⟨oB, cB, tB, rfl, ownB, rfl⟩, rfl⟩
  refine ⟨⟨_, pqD⟩, (.cons (mmD) rfl .nil), ?_⟩
  refine WX_birth rfl rfl rfl rfl .nil (B_buildSlice rfl si26 rfl rfl rfl) (fun b4 => ?_)
  refine WX_do rfl rfl rfl rfl .nil (fun _ => D_append rfl si26 rfl ownB plD rfl mmD (atZ : At _ 0 [_, _]) rfl rfl (by omega) (by omega)) ?_
  rintro _ _ ⟨ob9, c9, tl9, rfl, own9, rfl⟩
  refine ⟨⟨_, pqD⟩, (.cons (mmD) rfl .nil), ?_⟩
  have e80 : bvs (bigB (u.last + 1) 4) ++ [Value.int .u8 0, Value.int .u8 7] = bvs (bigB (u.last + 1) 4 ++ [0, 7]) := by rw [bvs_app]; rfl
  rw [e80, show (bigB (u.last + 1) 4).length + 2 = (bigB (u.last + 1) 4 ++ [0, 7]).length from by simp] at own9 ⊢
  refine WX_do rfl rfl rfl rfl .nil (fun _ => D_call (wsent_ok 17 (body := bigB (u.last + 1) 4 ++ [0, 7]) (M := [⟨ob9, cl (bvs (bigB (u.last + 1) 4 ++ [0, 7]) ++ tl9) 5⟩] ++ M) (h.out.up _) (RdM.own own9 M) (by omega) (by simp; omega)) rfl rfl rfl rfl (pqD)) ?_
  rintro _ _ ⟨_, ⟨oS, cS, tS, rfl, ownS, rfl⟩, rfl⟩
  refine ⟨⟨_, pqD⟩, (.cons (mmD) rfl .nil), ?_⟩
  refine WX_val rfl rfl rfl rfl (R_fieldAddr rfl fa37_3 rfl) ?_
  refine WX_nil ?_
  refine WQ_last0 rfl rfl rfl (D_store (vs := [_]) rfl Tryz.sizeOf26 rfl rfl rfl rfl rfl (plD) (by exact Nat.le_of_ble_eq_true rfl)) ?_
  rintro _ _ rfl
  refine WQ_code ?_
  refine WC_seq ?_
  refine WC_region ?_
  refine WL_val rfl rfl rfl (R_loadA (vs := [_, _, _, _, _, _]) rfl ag37 rfl (mmD) rfl (atZ)) ?_
  refine WL_do0 rfl rfl (D_store (vs := [_, _, _, _, _, _]) rfl Tryz.sizeOf37 rfl rfl rfl rfl rfl (plD) (by exact Nat.le_of_ble_eq_true rfl)) ?_
  rintro _ _ rfl
  refine WL_val rfl rfl rfl (R_assign rfl rfl) ?_
  refine WL_nil ?_
  refine WQ_code ?_
  refine WC_ret ?_
  refine WQ_ret rfl rfl (.cons (.cell (vs := [_, _, _, _, _, _]) rfl ag37 (mmD) rfl (atZ)) (.cons (.tmp rfl) .nil)) rfl (by
      exact ⟨[_], _, (SvR.outed (e := 5) h ownS).reb rfl rfl rfl rfl, rfl, rfl⟩) (pqD)
theorem wfull_ok : WFullOk := fun h hJ k _ _ _ hr hc hl hout hJ2 h4 hk h12 hid hf => wrq_full h hJ k hr hc hl hout hJ2 h4 hk h12 hid hf
end Go.Proofs.YtdelhikejgoffaaGreat
end
section
set_option linter.unusedVariables false
set_option maxRecDepth 20000
set_option maxHeartbeats 1000000
namespace Go.Proofs.YtdelhikejgoffaaGreat
theorem serves_ok (l : List Ac) (hl : l.length ≤ 9223372036854775807) {ol : Option Addr} {cl9 : Nat} (DH : Heap) (hdat : ∀ m ∈ l, RdM encY DH m.oa m.data) (hlst : LstM DH ol l) : Spec Tryz.prog 3 [.slice ol l.length cl9] DH (fun r H' => r = .bool true ∧ H' = DH) := serves_do wfull_ok l hl DH hdat hlst
theorem dedup9 {W : World} : ∀ es : List Ent, (∀ e ∈ es, e.ok W) → ∃ DH, HOK DH W ∧ ∀ e ∈ es, e ∈ DH
  | [], _ => ⟨[], ⟨by simp [keys], fun x hx => by cases hx⟩, fun e he => by cases he⟩
  | e :: es, h => by
    obtain ⟨DH, hok, hall⟩ := dedup9 es fun x hx => h x (List.mem_cons_of_mem _ hx)
    have he := h e (List.mem_cons_self ..)
    by_cases hm : e ∈ DH
    · exact ⟨DH, hok, fun x hx => by rcases List.mem_cons.1 hx with rfl | hx; exact hm; exact hall x hx⟩
    · refine ⟨e :: DH, ⟨?_, fun x hx => by rcases List.mem_cons.1 hx with rfl | hx; exact he; exact hok.ok x hx⟩, fun x hx => by rcases List.mem_cons.1 hx with rfl | hx; exact List.mem_cons_self ..; exact List.mem_cons_of_mem _ (hall x hx)⟩
      cases hb : e.b with
      | none => unfold keys; rw [List.filterMap_cons, hb]; exact hok.nodup
      | some b =>
        unfold keys
        rw [List.filterMap_cons, hb]
        refine List.nodup_cons.2 ⟨fun hk => hm ?_, hok.nodup⟩
        obtain ⟨x, hx, hxb⟩ := mem_keys.1 hk
        have h1 := hok.ok x hx
        have h2 := he
        simp only [Ent.ok, hxb] at h1
        simp only [Ent.ok, hb] at h2
        rw [h1] at h2
        have e1 : x.o = e.o := Option.some.inj h2
        have e2 : x = e := by cases x; cases e; simp only at hb hxb e1; rw [hb, hxb, e1]
        exact e2 ▸ hx
theorem ents9 {W : World} {P : Ac → Ent → Prop} : ∀ l : List Ac, (∀ x ∈ l, ∃ e, P x e ∧ e.ok W) → ∃ es : List Ent, (∀ e ∈ es, e.ok W) ∧ ∀ x ∈ l, ∃ e ∈ es, P x e
  | [], _ => ⟨[], (fun e he => by cases he), fun x hx => by cases hx⟩
  | x :: l, h => by
    obtain ⟨es, h1, h2⟩ := ents9 l fun y hy => h y (List.mem_cons_of_mem _ hy)
    obtain ⟨e, h3, h4⟩ := h x (List.mem_cons_self ..)
    refine ⟨e :: es, fun y hy => ?_, fun y hy => ?_⟩
    · rcases List.mem_cons.1 hy with rfl | hy
      · exact h4
      · exact h1 y hy
    · rcases List.mem_cons.1 hy with rfl | hy
      · exact ⟨e, List.mem_cons_self .., h3⟩
      · obtain ⟨e9, h5, h6⟩ := h2 y hy
        exact ⟨e9, List.mem_cons_of_mem _ h5, h6⟩
end Go.Proofs.YtdelhikejgoffaaGreat
end
section
set_option linter.unusedVariables false
set_option maxRecDepth 20000
namespace Go.Proofs.YtdelhikejgoffaaGreat
open Go.ChangeShapes Go.WideShapes Go.ChangeAt Go.RowKit Go.Joins Go.Deep
theorem decAc {H : Type} {enc : TypeId × Value → H} {W : World} {sp : Nat → Bool} {held : Bool} (m : Nat) (cs : List Value) (y : DataW H × List MemPlace) (h : DataW.trod enc Tryz.prog W 0 sp held m 43 cs = some y) : ∃ x : Ac, cs = encAc x ∧ ∃ en, (Arg x.oa en 1 encY x.data ∧ x.data.length ≤ maxLen) ∧ en.ok W := by
  obtain ⟨what, id, n, t, oa, en, l, c, rfl, _, _, _, wd, h1, h2, h3, _⟩ := decA m cs y h
  obtain ⟨tn, rfl, _⟩ := wf_u64 wd
  exact ⟨⟨what, id, n, tn, oa, c, l⟩, rfl, en, ⟨h1, h3⟩, h2⟩
end Go.Proofs.YtdelhikejgoffaaGreat
end
