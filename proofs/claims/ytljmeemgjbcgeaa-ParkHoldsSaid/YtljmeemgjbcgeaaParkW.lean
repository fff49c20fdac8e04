/-
  Chapter 09 (park), part ParkW: contracts of functions that the laws call, each for the heap it names.
-/
import Derived.Test.YtljmeemgjbcgeaaRows
import Derived.Test.YtljmeemgjbcgeaaZSLQueue
import Derived.Test.YtljmeemgjbcgeaaTab
import Derived.Test.YtljmeemgjbcgeaaParkM
set_option linter.unusedVariables false
set_option maxRecDepth 20000
set_option maxHeartbeats 1000000
namespace Go.Proofs.Ytljmeemgjbcgeaa

theorem Spec.none {P : Program} {f : FuncId} {args : List Value} {H : Heap} {post : Value → Heap → Prop} (e : TypeId) (h : Spec P f args H (fun r H' => ∃ x : Ent, (x.b = Option.none ∧ x.o = cl [] e) ∧ post r (x :: H'))) : Spec P f args H post :=
  ⟨h.enters, fun w hw => (h.calls w hw).mono fun _ _ ⟨v, H', e1, ⟨x, ⟨hx, hx2⟩, p⟩, r⟩ => ⟨v, x :: H', e1, p, by
    obtain ⟨b, o⟩ := x
    dsimp only at hx hx2
    subst hx hx2
    exact r.addNone e⟩⟩

theorem pk_where_no (N : Nat) (s : PS) (l : PkM) (hl : PkIs N s l) (i : Int) (h : (s.whr i).2 ≠ 0) : Spec Try.prog 13 [ptrQ l.p, .int .i64 i] (pkH l) (fun r H' => r = .tuple #[ekS (s.whr i).1, .int .i64 (s.whr i).2] ∧ H' = pkH l) := by
  refine Spec.of (E := [(0, ptrQ l.p), (1, .int .i64 i)]) Try.func13 rfl (by kernel_rfl) Try.ntmps13 rfl rfl (fun w => ?_)
  refine WC_seq ?_
  refine WC_region ?_
  refine WL_do rfl rfl rfl (D_alloc rfl zv25) ?_
  rintro _ _ ⟨b1, rfl, rfl⟩
  refine WL_val rfl rfl rfl (R_assign rfl rfl) ?_
  refine WL_nil ?_
  refine WQ_code ?_
  refine WC_seq ?_
  refine WC_region ?_
  refine WL_val rfl rfl rfl (R_move rfl rfl) ?_
  refine WL_val rfl rfl rfl (R_move rfl rfl) ?_
  refine WL_do rfl rfl rfl (D_call (pk_state N s l hl i) rfl rfl rfl rfl (pqY)) ?_
  rintro _ _ ⟨_, ⟨rfl, rfl⟩, rfl⟩
  refine WL_val rfl rfl rfl (R_move rfl rfl) ?_
  refine WL_val rfl rfl rfl (R_extract rfl rfl rfl) ?_
  refine WL_val rfl rfl rfl (R_extract rfl rfl rfl) ?_
  refine WL_val rfl rfl rfl (R_assign rfl rfl) ?_
  refine WL_val rfl rfl rfl (R_assign rfl rfl) ?_
  refine WL_nil ?_
  refine WQ_code ?_
  refine WC_seq ?_
  refine WC_block ?_
  refine WC_seq ?_
  refine WC_region ?_
  refine WL_val rfl rfl rfl (R_move rfl rfl) ?_
  refine WL_val rfl rfl rfl (R_neq rfl rfl rfl) ?_
  refine WL_val rfl rfl rfl (R_assign rfl rfl) ?_
  refine WL_nil ?_
  refine WQ_code ?_
  refine WC_dec rfl (fun c1 => ?_) (fun c1 => ?_)
  · have e9 : s.whr i = ((0, 0), (stR s.sm i).2) := by unfold PS.whr; rw [if_pos c1]
    refine WC_seq ?_
    refine WC_region ?_
    refine WL_val rfl rfl rfl (R_build rfl zv25 pl25 rfl rfl) ?_
    refine WL_val rfl rfl rfl (R_move rfl rfl) ?_
    refine WL_do0 rfl rfl (D_store (vs := [_, _]) rfl Try.sizeOf25 rfl rfl rfl rfl rfl (plY) (by exact Nat.le_of_ble_eq_true rfl)) ?_
    rintro _ _ rfl
    refine WL_val rfl rfl rfl (R_assign rfl rfl) ?_
    refine WL_nil ?_
    refine WQ_code ?_
    refine WC_ret ?_
    refine WQ_ret rfl rfl (.cons (.cell (vs := [_, _]) rfl ag25 (mmY) rfl (atZ)) (.cons (.tmp rfl) .nil)) rfl (by
        exact ⟨by rw [e9]; rfl, rfl⟩) (pqY)
  · obtain ⟨j, x, rfl, hx, hst⟩ := stR_some (show (stR s.sm i).2 = 0 from Decidable.not_not.1 c1)
    refine WC_seq ?_
    refine WC_region ?_
    refine WL_val rfl rfl rfl (R_move rfl rfl) ?_
    refine WL_val rfl rfl rfl (R_neq rfl rfl rfl) ?_
    refine WL_val rfl rfl rfl (R_assign rfl rfl) ?_
    refine WL_nil ?_
    refine WQ_code ?_
    refine WC_dec rfl (fun c2 => ?_) (fun c2 => ?_)
    · have e9 : s.whr (j : Int) = ((0, 0), 8) := hl.ps.whr_no hx (by rw [hst] at c2; omega)
      refine WC_seq ?_
      refine WC_region ?_
      refine WL_val rfl rfl rfl (R_build rfl zv25 pl25 rfl rfl) ?_
      refine WL_do0 rfl rfl (D_store (vs := [_, _]) rfl Try.sizeOf25 rfl rfl rfl rfl rfl (plY) (by exact Nat.le_of_ble_eq_true rfl)) ?_
      rintro _ _ rfl
      refine WL_val rfl rfl rfl (R_assign rfl rfl) ?_
      refine WL_nil ?_
      refine WQ_code ?_
      refine WC_ret ?_
      refine WQ_ret rfl rfl (.cons (.cell (vs := [_, _]) rfl ag25 (mmY) rfl (atZ)) (.cons (.tmp rfl) .nil)) rfl (by
          exact ⟨by rw [e9]; rfl, rfl⟩) (pqY)
    · exfalso; apply h; obtain rfl : x = 2 := (by rw [hst] at c2; omega); obtain ⟨z, hz, rfl⟩ := (hl.ps.prk j).1 hx; rw [hl.ps.whr_yes hz]
theorem pk_where_yes (N : Nat) (s : PS) (l : PkM) (hl : PkIs N s l) (z : Wt) (hz : z ∈ s.W) : Spec Try.prog 13 [ptrQ l.p, .int .i64 (z.i : Int)] (pkH l) (fun r H' => r = .tuple #[ekS z.at_, .int .i64 0] ∧ H' = pkH l) := by
  have hi := (hl.ps.prk z.i).2 ⟨z, hz, rfl⟩
  obtain ⟨t, q, hst, _, _⟩ := hl.seat z hz
  have hlt := (List.getElem?_eq_some_iff.1 hst).1
  refine Spec.of (E := [(0, ptrQ l.p), (1, .int .i64 (z.i : Int))]) Try.func13 rfl (by kernel_rfl) Try.ntmps13 rfl rfl (fun w => ?_)
  refine WC_seq ?_
  refine WC_region ?_
  refine WL_do rfl rfl rfl (D_alloc rfl zv25) ?_
  rintro _ _ ⟨b1, rfl, rfl⟩
  refine WL_val rfl rfl rfl (R_assign rfl rfl) ?_
  refine WL_nil ?_
  refine WQ_code ?_
  refine WC_seq ?_
  refine WC_region ?_
  refine WL_val rfl rfl rfl (R_move rfl rfl) ?_
  refine WL_val rfl rfl rfl (R_move rfl rfl) ?_
  refine WL_do rfl rfl rfl (D_call (pk_state N s l hl (z.i : Int)) rfl rfl rfl rfl (pqY)) ?_
  rintro _ _ ⟨_, ⟨rfl, rfl⟩, rfl⟩
  refine WL_val rfl rfl rfl (R_move rfl rfl) ?_
  refine WL_val rfl rfl rfl (R_extract rfl rfl rfl) ?_
  refine WL_val rfl rfl rfl (R_extract rfl rfl rfl) ?_
  refine WL_val rfl rfl rfl (R_assign rfl rfl) ?_
  refine WL_val rfl rfl rfl (R_assign rfl rfl) ?_
  refine WL_nil ?_
  refine WQ_code ?_
  refine WC_seq ?_
  refine WC_block ?_
  refine WC_seq ?_
  refine WC_region ?_
  refine WL_val rfl rfl rfl (R_move rfl rfl) ?_
  refine WL_val rfl rfl rfl (R_neq rfl rfl rfl) ?_
  refine WL_val rfl rfl rfl (R_assign rfl rfl) ?_
  refine WL_nil ?_
  refine WQ_code ?_
  refine WC_dF rfl (by rw [stR_in hi]; decide) ?_
  refine WC_seq ?_
  refine WC_region ?_
  refine WL_val rfl rfl rfl (R_move rfl rfl) ?_
  refine WL_val rfl rfl rfl (R_neq rfl rfl rfl) ?_
  refine WL_val rfl rfl rfl (R_assign rfl rfl) ?_
  refine WL_nil ?_
  refine WQ_code ?_
  refine WC_dF rfl (by rw [stR_in hi]; decide) ?_
  refine WC_skip ?_
  refine WQ_code ?_
  refine WC_seq ?_
  refine WC_region ?_
  refine WL_val rfl rfl rfl (R_move rfl rfl) ?_
  refine WL_val rfl rfl rfl (R_nilCheck rfl rfl) ?_
  refine WL_val rfl rfl rfl (R_fieldAddr rfl fa69_1 rfl) ?_
  refine WL_val rfl rfl rfl (R_load rfl sc66 rfl (mmY) rfl) ?_
  refine WL_val rfl rfl rfl (R_move rfl rfl) ?_
  refine WL_val rfl rfl rfl (R_indexAddrN rfl Try.underlying66 Try.sizeOf81 rfl rfl (by omega)) ?_
  refine WL_val rfl rfl rfl (R_fieldAddr rfl fa81_0 rfl) ?_
  refine WL_val rfl rfl rfl (R_loadA (vs := [.int .i64 z.at_.1, .int .i64 z.at_.2]) rfl ag25 rfl (mmY) rfl (fm_at0 encSeat3 hst (j := 0) (vs := [.int .i64 z.at_.1, .int .i64 z.at_.2]) (atZ) (by simp))) ?_
  refine WL_do0 rfl rfl (D_store (vs := [_, _]) rfl Try.sizeOf25 rfl rfl rfl rfl rfl (plY) (by exact Nat.le_of_ble_eq_true rfl)) ?_
  rintro _ _ rfl
  refine WL_val rfl rfl rfl (R_assign rfl rfl) ?_
  refine WL_nil ?_
  refine WQ_code ?_
  refine WC_ret ?_
  refine WQ_ret rfl rfl (.cons (.cell (vs := [_, _]) rfl ag25 (mmY) rfl (atZ)) (.cons (.tmp rfl) .nil)) rfl (by
      exact ⟨rfl, rfl⟩) (pqY)
theorem pk_where (N : Nat) (s : PS) (l : PkM) (hl : PkIs N s l) (i : Int) : Spec Try.prog 13 [ptrQ l.p, .int .i64 i] (pkH l) (fun r H' => r = .tuple #[ekS (s.whr i).1, .int .i64 (s.whr i).2] ∧ H' = pkH l) := by
  by_cases h : (s.whr i).2 = 0
  · obtain ⟨w, hw, rfl, e⟩ := whr_some hl.ps h
    rw [e]; exact pk_where_yes N s l hl w hw
  · exact pk_where_no N s l hl i h
theorem pk_wait_bad (N : Nat) (s : PS) (l : PkM) (hl : PkIs N s l) (a : Sp) (h : ¬ vldS a) : Spec Try.prog 19 [ptrQ l.p, ekS a] (pkH l) (fun r H' => r = .tuple #[.slice none 0 0, .int .i64 2] ∧ H' = pkH l) := by
  refine Spec.ofM (E := [(0, ptrQ l.p), (1, ekS a)]) Try.func19 rfl (by kernel_rfl) Try.ntmps19 rfl rfl (fun w => ?_)
  refine WC_seq ?_
  refine WC_region ?_
  refine WL_do rfl rfl rfl (D_box (cs := [_, _]) rfl rfl rfl) ?_
  rintro _ _ ⟨b1, rfl, rfl⟩
  refine WL_val rfl rfl rfl (R_assign rfl rfl) ?_
  refine WL_val rfl rfl rfl (R_assign rfl rfl) ?_
  refine WL_nil ?_
  refine WQ_code ?_
  refine WC_seq ?_
  refine WC_block ?_
  refine WC_seq ?_
  refine WC_region ?_
  refine WL_val rfl rfl rfl (R_move rfl rfl) ?_
  refine WL_do rfl rfl rfl (D_call (pk_zero l) rfl rfl rfl rfl (pqY)) ?_
  rintro _ _ ⟨_, ⟨rfl, rfl⟩, rfl⟩
  refine WL_val rfl rfl rfl (R_assign rfl rfl) ?_
  refine WL_nil ?_
  refine WQ_code ?_
  refine WC_F rfl ?_
  refine WC_seq ?_
  refine WC_region ?_
  refine WL_val rfl rfl rfl (R_loadA (vs := [_, _]) rfl ag25 rfl (mmY) rfl (atZ)) ?_
  refine WL_do rfl rfl rfl (D_call (valid_ok a) rfl rfl rfl rfl (pqY)) ?_
  rintro _ _ ⟨_, ⟨rfl, rfl⟩, rfl⟩
  refine WL_val rfl rfl rfl (R_notD rfl rfl) ?_
  refine WL_val rfl rfl rfl (R_assign rfl rfl) ?_
  refine WL_nil ?_
  refine WQ_code ?_
  refine WC_dT rfl (by exact h) ?_
  refine WC_seq ?_
  refine WC_region ?_
  refine WL_val rfl rfl rfl (R_assign rfl rfl) ?_
  refine WL_val rfl rfl rfl (R_assign rfl rfl) ?_
  refine WL_nil ?_
  refine WQ_code ?_
  refine WC_ret ?_
  refine WQ_retM0 rfl rfl (.cons (.tmp rfl) (.cons (.tmp rfl) .nil)) rfl (by
      exact ⟨rfl, rfl⟩) (pqY)
theorem pk_wait_no (N : Nat) (s : PS) (l : PkM) (hl : PkIs N s l) (a : Sp) (h : vldS a) (ha : a ∉ l.QL.map (·.1)) : Spec Try.prog 19 [ptrQ l.p, ekS a] (pkH l) (fun r H' => r = .tuple #[.slice none 0 0, .int .i64 0] ∧ H' = pkH l) := by
  refine Spec.ofM (E := [(0, ptrQ l.p), (1, ekS a)]) Try.func19 rfl (by kernel_rfl) Try.ntmps19 rfl rfl (fun w => ?_)
  refine WC_seq ?_
  refine WC_region ?_
  refine WL_do rfl rfl rfl (D_box (cs := [_, _]) rfl rfl rfl) ?_
  rintro _ _ ⟨b1, rfl, rfl⟩
  refine WL_val rfl rfl rfl (R_assign rfl rfl) ?_
  refine WL_val rfl rfl rfl (R_assign rfl rfl) ?_
  refine WL_nil ?_
  refine WQ_code ?_
  refine WC_seq ?_
  refine WC_block ?_
  refine WC_seq ?_
  refine WC_region ?_
  refine WL_val rfl rfl rfl (R_move rfl rfl) ?_
  refine WL_do rfl rfl rfl (D_call (pk_zero l) rfl rfl rfl rfl (pqY)) ?_
  rintro _ _ ⟨_, ⟨rfl, rfl⟩, rfl⟩
  refine WL_val rfl rfl rfl (R_assign rfl rfl) ?_
  refine WL_nil ?_
  refine WQ_code ?_
  refine WC_F rfl ?_
  refine WC_seq ?_
  refine WC_region ?_
  refine WL_val rfl rfl rfl (R_loadA (vs := [_, _]) rfl ag25 rfl (mmY) rfl (atZ)) ?_
  refine WL_do rfl rfl rfl (D_call (valid_ok a) rfl rfl rfl rfl (pqY)) ?_
  rintro _ _ ⟨_, ⟨rfl, rfl⟩, rfl⟩
  refine WL_val rfl rfl rfl (R_notD rfl rfl) ?_
  refine WL_val rfl rfl rfl (R_assign rfl rfl) ?_
  refine WL_nil ?_
  refine WQ_code ?_
  refine WC_dF rfl (by simpa using h) ?_
  refine WC_skip ?_
  refine WQ_code ?_
  refine WC_seq ?_
  refine WC_region ?_
  refine WL_do rfl rfl rfl (D_alloc rfl zv32) ?_
  rintro _ _ ⟨b2, rfl, rfl⟩
  refine WL_nil ?_
  refine WQ_code ?_
  refine WC_seq ?_
  refine WC_seq ?_
  refine WC_draw _ [(0, true), (1, true), (2, true), (3, true), (4, true), (5, true), (6, false)] followsMixed rfl rfl (by kernel_rfl) .all ?_
  refine WM_val rfl rfl rfl rfl (R_move rfl rfl) ?_
  refine WM_val rfl rfl rfl rfl (R_nilCheck rfl rfl) ?_
  refine WM_val rfl rfl rfl rfl (R_fieldAddr rfl fa69_2 rfl) ?_
  refine WM_val rfl rfl rfl rfl (R_load rfl sc67 rfl (mmY) rfl) ?_
  refine WM_val rfl rfl rfl rfl (R_loadA (vs := [_, _]) rfl ag25 rfl (mmY) rfl (atZ)) ?_
  refine WM_val rfl rfl rfl rfl (R_lookK0 (k := a) (zv := .pointer none) rfl Try.underlying67 spot_key rfl rfl (mmY) hl.mpk ha (fun w => Try.zeroValue76 w)) ?_
  refine WM_do rfl rfl rfl rfl (D_call (qall_nil) rfl rfl rfl rfl (pqY)) ?_
  rintro _ _ ⟨_, ⟨bc, rfl, rfl⟩, rfl⟩
  refine ⟨⟨_, pqY⟩, ?_⟩
  refine WM_nil ?_
  refine WQ_code ?_
  refine WC_block ?_
  refine WC_range (G := Unit) (GX := Unit) (qiter_none bc) rfl rfl (fun _ => rfl) rfl (fun pre _ => True) (fun _ => []) (fun _ _ _ => False) (fun _ => []) (()) (trivial) (pqY) (pqY) ?_ ?_ ?_
  · intro l pre x suf gg hx hI w2
    simp at hx
  · intro dl gg hI
    refine WQ_code ?_
    refine WC_seq ?_
    refine WC_region ?_
    refine WL_val rfl rfl rfl (R_load rfl sc32 rfl (mmY) rfl) ?_
    refine WL_val rfl rfl rfl (R_assign rfl rfl) ?_
    refine WL_val rfl rfl rfl (R_assign rfl rfl) ?_
    refine WL_nil ?_
    refine WQ_code ?_
    refine WC_ret ?_
    refine WQ_retM rfl (plY) rfl (.cons (.tmp rfl) (.cons (.tmp rfl) .nil)) rfl (by
        exact ⟨rfl, rfl⟩) (pqY)
  · intro dl c pre gx hIx
    exact hIx.elim
theorem pk_wait_in (N : Nat) (s : PS) (p bs mb : Nat) (t : TkM) (seats : List (Sp × Nat)) (cs : Nat) (ts : List Value) (mes : Array MapEntry) (mc : Nat) (a : Sp) (q : QM) (R : List (Sp × QM)) (hl : PkIs N s ⟨p, bs, mb, t, seats, cs, ts, mes, mc, (a, q) :: R⟩) (h : vldS a) : Spec Try.prog 19 [ptrQ p, ekS a] (pkH ⟨p, bs, mb, t, seats, cs, ts, mes, mc, (a, q) :: R⟩)
    (fun r H' => ∃ ob c' tl', r = .tuple #[slV ob (wAt s.W a).length c', .int .i64 0] ∧ Own ob (wAt s.W a).length c' 1 (ivs (wAt s.W a)) tl' ∧ H' = ⟨ob, cl (ivs (wAt s.W a) ++ tl') 3⟩ :: pkH ⟨p, bs, mb, t, seats, cs, ts, mes, mc, (a, q) :: R⟩) := by
  have hq := (hl.q (a, q) (List.mem_cons_self ..)).1
  have hv := (hl.q (a, q) (List.mem_cons_self ..)).2
  have hln := hl.qlen (x := (a, q)) (List.mem_cons_self ..)
  dsimp only at hq hv hln
  refine Spec.ofM (E := [(0, ptrQ p), (1, ekS a)]) Try.func19 rfl (by kernel_rfl) Try.ntmps19 rfl rfl (fun w => ?_)
  refine WC_seq ?_
  refine WC_region ?_
  refine WL_do rfl rfl rfl (D_box (cs := [_, _]) rfl rfl rfl) ?_
  rintro _ _ ⟨b1, rfl, rfl⟩
  refine WL_val rfl rfl rfl (R_assign rfl rfl) ?_
  refine WL_val rfl rfl rfl (R_assign rfl rfl) ?_
  refine WL_nil ?_
  refine WQ_code ?_
  refine WC_seq ?_
  refine WC_block ?_
  refine WC_seq ?_
  refine WC_region ?_
  refine WL_val rfl rfl rfl (R_move rfl rfl) ?_
  refine WL_do rfl rfl rfl (D_call (pk_zero ⟨p, bs, mb, t, seats, cs, ts, mes, mc, (a, q) :: R⟩) rfl rfl rfl rfl (pqY)) ?_
  rintro _ _ ⟨_, ⟨rfl, rfl⟩, rfl⟩
  refine WL_val rfl rfl rfl (R_assign rfl rfl) ?_
  refine WL_nil ?_
  refine WQ_code ?_
  refine WC_F rfl ?_
  refine WC_seq ?_
  refine WC_region ?_
  refine WL_val rfl rfl rfl (R_loadA (vs := [_, _]) rfl ag25 rfl (mmY) rfl (atZ)) ?_
  refine WL_do rfl rfl rfl (D_call (valid_ok a) rfl rfl rfl rfl (pqY)) ?_
  rintro _ _ ⟨_, ⟨rfl, rfl⟩, rfl⟩
  refine WL_val rfl rfl rfl (R_notD rfl rfl) ?_
  refine WL_val rfl rfl rfl (R_assign rfl rfl) ?_
  refine WL_nil ?_
  refine WQ_code ?_
  refine WC_dF rfl (by simpa using h) ?_
  refine WC_skip ?_
  refine WQ_code ?_
  refine WC_seq ?_
  refine WC_region ?_
  refine WL_do rfl rfl rfl (D_alloc rfl zv32) ?_
  rintro _ _ ⟨b2, rfl, rfl⟩
  refine WL_nil ?_
  refine WQ_code ?_
  refine WC_seq ?_
  refine WC_seq ?_
  refine WC_draw _ [(0, true), (1, true), (2, true), (3, true), (4, true), (5, true), (6, false)] followsMixed rfl rfl (by kernel_rfl) .all ?_
  refine WM_val rfl rfl rfl rfl (R_move rfl rfl) ?_
  refine WM_val rfl rfl rfl rfl (R_nilCheck rfl rfl) ?_
  refine WM_val rfl rfl rfl rfl (R_fieldAddr rfl fa69_2 rfl) ?_
  refine WM_val rfl rfl rfl rfl (R_load rfl sc67 rfl (mmY) rfl) ?_
  refine WM_val rfl rfl rfl rfl (R_loadA (vs := [_, _]) rfl ag25 rfl (mmY) rfl (atZ)) ?_
  refine WM_val rfl rfl rfl rfl (R_lookK (k := a) (a := q) rfl Try.underlying67 spot_key rfl rfl (mmY) hl.mpk (List.mem_cons_self ..)) ?_
  refine WM_do rfl rfl rfl rfl (D_call (qall_ok q.p q.mb q.l q.n q.es q.mc) rfl rfl rfl rfl (pqY)) ?_
  rintro _ _ ⟨_, ⟨bc, p2, m2, rfl, rfl⟩, rfl⟩
  refine ⟨⟨_, pqY⟩, ?_⟩
  refine WM_nil ?_
  refine WQ_code ?_
  refine WC_block ?_
  refine WC_none 3 ?_
  refine WC_range (G := RS) (GX := Unit) (qiter_ok bc p2 m2 q.l q.n q.es q.mc hq.qk hq.mp) rfl rfl (fun _ => rfl) rfl (fun pre g => g.l = pre.map (·.2) ∧ pre.length ≤ q.l.length ∧ Own g.ob g.l.length g.c 1 (ivs g.l) g.tl) (fun g => [⟨some b2, cl [slV g.ob g.l.length g.c] 32⟩, ⟨g.ob, cl (ivs g.l ++ g.tl) 3⟩]) (fun _ _ _ => False) (fun _ => []) (⟨[], none, 0, []⟩) (⟨rfl, Nat.zero_le _, Own.empty 1⟩) (pqY) (pqY) ?_ ?_ ?_
  · intro l pre x suf gg hx hI w2
    obtain ⟨hgl, hgn, hown⟩ := hI
    have hlt : pre.length < q.l.length := by rw [hx, List.length_append, List.length_cons]; omega
    have hgl2 : gg.l.length = pre.length := by rw [hgl, List.length_map]
    refine WC_region ?_
    refine WL_val rfl rfl rfl (R_assign rfl rfl) ?_
    refine WL_nil ?_
    refine WQ_begin (fun w3 => ?_)
    refine WC_block ?_
    refine WC_region ?_
    refine WL_val rfl rfl rfl (R_load rfl sc32 rfl (mmY) rfl) ?_
    refine WL_val rfl rfl rfl (R_move rfl rfl) ?_
    refine WL_do rfl rfl rfl (D_buildSlice rfl si32 rfl rfl rfl) ?_
    rintro _ _ ⟨b3, rfl, rfl⟩
    refine WL_do rfl rfl rfl (D_append rfl si32 rfl (hown) (plY) rfl (mmY) ((atZ : At _ 0 [_])) (rfl) (rfl) (by omega) (by omega)) ?_
    rintro _ _ ⟨ob4, cap4, tl4, rfl, own4, rfl⟩
    have hsn : ivs gg.l ++ [Value.int .i64 x.2] = ivs (gg.l ++ [x.2]) := by simp
    rw [hsn] at own4 ⊢
    refine WL_do0 rfl rfl (D_store (vs := [_]) rfl Try.sizeOf32 rfl rfl rfl rfl rfl (plY) (by exact Nat.le_of_ble_eq_true rfl)) ?_
    rintro _ _ rfl
    refine WL_nil ?_
    rw [show gg.l.length + 1 = (gg.l ++ [x.2]).length from by rw [List.length_append, List.length_singleton]]
    refine WQ_rnd (⟨gg.l ++ [x.2], ob4, cap4, tl4⟩) ?_ (pqY)
    exact (⟨by rw [hgl, List.map_append]; rfl, by rw [List.length_append, List.length_singleton]; omega, by rw [List.length_append, List.length_singleton]; exact own4⟩)
  · intro dl gg hI
    obtain ⟨hgl, hgn, hown⟩ := hI
    rw [hv] at hgl
    rw [hgl]
    rw [hgl] at hown
    refine WQ_code ?_
    refine WC_seq ?_
    refine WC_region ?_
    refine WL_val rfl rfl rfl (R_load rfl sc32 rfl (mmY) rfl) ?_
    refine WL_val rfl rfl rfl (R_assign rfl rfl) ?_
    refine WL_val rfl rfl rfl (R_assign rfl rfl) ?_
    refine WL_nil ?_
    refine WQ_code ?_
    refine WC_ret ?_
    refine WQ_retM rfl (plY) rfl (.cons (.tmp rfl) (.cons (.tmp rfl) .nil)) rfl (by
        exact ⟨gg.ob, gg.c, gg.tl, rfl, hown, rfl⟩) (pqY)
  · intro dl c pre gx hIx
    exact hIx.elim
theorem pk_waiting (N : Nat) (s : PS) (l : PkM) (hl : PkIs N s l) (a : Sp) : Spec Try.prog 19 [ptrQ l.p, ekS a] (pkH l) (fun r H' => ∃ ob c' tl', r = .tuple #[slV ob (s.waiting a).length c', .int .i64 (spE a)] ∧ Own ob (s.waiting a).length c' 1 (ivs (s.waiting a)) tl' ∧ H' = ⟨ob, cl (ivs (s.waiting a) ++ tl') 3⟩ :: pkH l) := by
  unfold PS.waiting spE
  by_cases h : vldS a
  · rw [if_pos h, if_pos h]
    rcases key_or l a with ha | ⟨q, R, hp⟩
    · rw [hl.absent ha]
      exact Spec.none 3 ((pk_wait_no N s l hl a h ha).mono fun r H' ⟨e1, e2⟩ => ⟨⟨none, cl [] 3⟩, ⟨rfl, rfl⟩, none, 0, [], e1, Own.empty 1, by rw [e2]; rfl⟩)
    · have h2 := pk_wait_in N s l.p l.bs l.mb l.t l.seats l.cs l.ts l.mes l.mc a q R (hl.to hp) h
      have hp2 := pkH_perm l hp
      exact Spec.re ((Spec.perm h2 hp2).mono fun r H' ⟨ob, c', tl', e1, e2, e3⟩ => ⟨⟨ob, cl (ivs (wAt s.W a) ++ tl') 3⟩ :: pkH l, by rw [e3]; exact .cons _ hp2.symm, ob, c', tl', e1, e2, rfl⟩)
  · rw [if_neg h, if_neg h]
    exact Spec.none 3 ((pk_wait_bad N s l hl a h).mono fun r H' ⟨e1, e2⟩ => ⟨⟨none, cl [] 3⟩, ⟨rfl, rfl⟩, none, 0, [], e1, Own.empty 1, by rw [e2]; rfl⟩)

end Go.Proofs.Ytljmeemgjbcgeaa
