/-
 Chapter 11 (poller), part TimerL: contracts of functions that the laws call, each for the heap it names.
-/
import Derived.Test.YtbkdebnkoidicaaGreatY02
import Derived.Test.YtbkdebnkoidicaaGreatRows
section
set_option linter.unusedVariables false
set_option maxRecDepth 20000
set_option maxHeartbeats 1000000
namespace Go.Proofs.YtbkdebnkoidicaaGreat
theorem pk_where_no (N : Nat) (s : PS) (l : PkM) (hl : PkIs N s l) (i : Int) (h : (s.whr i).2 ≠ 0) : Spec Tryz.prog 52 [ptrQ l.p, .int .i64 i] (pkH l) (fun r H' => r = .tuple #[ekS (s.whr i).1, .int .i64 (s.whr i).2] ∧ H' = pkH l) := by
 refine Spec.of (E := [(0, ptrQ l.p), (1, .int .i64 i)]) Tryz.func52 rfl (by kernel_rfl) Tryz.ntmps52 rfl rfl (fun w => ?_)
 refine WC_seq (WC_region ?_)
 refine WL_do rfl rfl rfl (D_alloc rfl zv108) ?_
 rintro _ _ ⟨b1, rfl, rfl⟩
 refine WLa rfl (WL_nil (WQ_code (WC_seq (WC_region (WLa rfl (WLa rfl ?_))))))
 refine WL_do rfl rfl rfl (D_call (pk_state N s l hl i) rfl rfl rfl rfl (pqY)) ?_
 rintro _ _ ⟨_, ⟨rfl, rfl⟩, rfl⟩
 refine WLa rfl (WLa rfl (WLa rfl (WLa rfl (WLa rfl (WL_nil (WQ_code (WC_seq (WC_block (WC_seq (WC_region (WLa rfl ?_)))))))))))
 refine WL_val rfl rfl rfl (R_neq rfl rfl rfl) ?_
 refine WLa rfl (WL_nil (WQ_code ?_))
 refine WC_dec rfl (fun c1 => ?_) (fun c1 => ?_)
 ·have e9 : s.whr i = ((0, 0), (stR s.sm i).2) := by unfold PS.whr; rw [if_pos c1]
  refine WC_seq (WC_region ?_)
  refine WL_val rfl rfl rfl (R_build rfl zv108 pl108 rfl rfl) ?_
  refine WLa rfl ?_
  refine WL_do0 rfl rfl (D_store (vs := [_, _]) rfl Tryz.sizeOf108 rfl rfl rfl rfl rfl (plY) (Nat.le_of_ble_eq_true rfl)) ?_
  rintro _ _ rfl
  refine WLa rfl (WL_nil (WQ_code (WC_ret ?_)))
  refine WQ_ret rfl rfl (.cons (.cell (vs := [_, _]) rfl ag108 (mmY) rfl (atZ)) (.cons (.tmp rfl) .nil)) rfl (by
    exact ⟨by rw [e9]; rfl, rfl⟩) (pqY)
 ·obtain ⟨j, x, rfl, hx, hst⟩ := stR_some (show (stR s.sm i).2 = 0 from Decidable.not_not.1 c1)
  refine WC_seq (WC_region (WLa rfl ?_))
  refine WL_val rfl rfl rfl (R_neq rfl rfl rfl) ?_
  refine WLa rfl (WL_nil (WQ_code ?_))
  refine WC_dec rfl (fun c2 => ?_) (fun c2 => ?_)
  ·have e9 : s.whr (j : Int) = ((0, 0), 8) := hl.ps.whr_no hx (by rw [hst] at c2; omega)
   refine WC_seq (WC_region ?_)
   refine WL_val rfl rfl rfl (R_build rfl zv108 pl108 rfl rfl) ?_
   refine WL_do0 rfl rfl (D_store (vs := [_, _]) rfl Tryz.sizeOf108 rfl rfl rfl rfl rfl (plY) (Nat.le_of_ble_eq_true rfl)) ?_
   rintro _ _ rfl
   refine WLa rfl (WL_nil (WQ_code (WC_ret ?_)))
   refine WQ_ret rfl rfl (.cons (.cell (vs := [_, _]) rfl ag108 (mmY) rfl (atZ)) (.cons (.tmp rfl) .nil)) rfl (by
     exact ⟨by rw [e9]; rfl, rfl⟩) (pqY)
  ·exfalso; apply h; obtain rfl : x = 2 := (by rw [hst] at c2; omega); obtain ⟨z, hz, rfl⟩ := (hl.ps.prk j).1 hx; rw [hl.ps.whr_yes hz]
theorem pk_where_yes (N : Nat) (s : PS) (l : PkM) (hl : PkIs N s l) (z : Wt) (hz : z ∈ s.W) : Spec Tryz.prog 52 [ptrQ l.p, .int .i64 (z.i : Int)] (pkH l) (fun r H' => r = .tuple #[ekS z.at_, .int .i64 0] ∧ H' = pkH l) := by
 have hi := (hl.ps.prk z.i).2 ⟨z, hz, rfl⟩
 obtain ⟨t, q, hst, _, _⟩ := hl.seat z hz
 have hlt := (List.getElem?_eq_some_iff.1 hst).1
 refine Spec.of (E := [(0, ptrQ l.p), (1, .int .i64 (z.i : Int))]) Tryz.func52 rfl (by kernel_rfl) Tryz.ntmps52 rfl rfl (fun w => ?_)
 refine WC_seq (WC_region ?_)
 refine WL_do rfl rfl rfl (D_alloc rfl zv108) ?_
 rintro _ _ ⟨b1, rfl, rfl⟩
 refine WLa rfl (WL_nil (WQ_code (WC_seq (WC_region (WLa rfl (WLa rfl ?_))))))
 refine WL_do rfl rfl rfl (D_call (pk_state N s l hl (z.i : Int)) rfl rfl rfl rfl (pqY)) ?_
 rintro _ _ ⟨_, ⟨rfl, rfl⟩, rfl⟩
 refine WLa rfl (WLa rfl (WLa rfl (WLa rfl (WLa rfl (WL_nil (WQ_code (WC_seq (WC_block (WC_seq (WC_region (WLa rfl ?_)))))))))))
 refine WL_val rfl rfl rfl (R_neq rfl rfl rfl) ?_
 refine WLa rfl (WL_nil (WQ_code ?_))
 refine WC_dF rfl (by rw [stR_in hi]; decide) ?_
 refine WC_seq (WC_region (WLa rfl ?_))
 refine WL_val rfl rfl rfl (R_neq rfl rfl rfl) ?_
 refine WLa rfl (WL_nil (WQ_code ?_))
 refine WC_dF rfl (by rw [stR_in hi]; decide) ?_
 refine WC_skip (WQ_code (WC_seq (WC_region (WLa rfl (WLa rfl ?_)))))
 refine WL_val rfl rfl rfl (R_fieldAddr rfl fa154_1 rfl) ?_
 refine WL_val rfl rfl rfl (R_load rfl sc151 rfl (mmY) rfl) ?_
 refine WLa rfl ?_
 refine WL_val rfl rfl rfl (R_indexAddrN rfl Tryz.underlying151 Tryz.sizeOf182 rfl rfl (by omega)) ?_
 refine WL_val rfl rfl rfl (R_fieldAddr rfl fa182_0 rfl) ?_
 refine WL_val rfl rfl rfl (R_loadA (vs := [.int .i64 z.at_.1, .int .i64 z.at_.2]) rfl ag108 rfl (mmY) rfl (fm_at0 encSeat3 hst (j := 0) (vs := [.int .i64 z.at_.1, .int .i64 z.at_.2]) (atZ) (by simp))) ?_
 refine WL_do0 rfl rfl (D_store (vs := [_, _]) rfl Tryz.sizeOf108 rfl rfl rfl rfl rfl (plY) (Nat.le_of_ble_eq_true rfl)) ?_
 rintro _ _ rfl
 refine WLa rfl (WL_nil (WQ_code (WC_ret ?_)))
 refine WQ_ret rfl rfl (.cons (.cell (vs := [_, _]) rfl ag108 (mmY) rfl (atZ)) (.cons (.tmp rfl) .nil)) rfl (by
   exact ⟨rfl, rfl⟩) (pqY)
theorem pk_where (N : Nat) (s : PS) (l : PkM) (hl : PkIs N s l) (i : Int) : Spec Tryz.prog 52 [ptrQ l.p, .int .i64 i] (pkH l) (fun r H' => r = .tuple #[ekS (s.whr i).1, .int .i64 (s.whr i).2] ∧ H' = pkH l) := by
 by_cases h : (s.whr i).2 = 0
 ·obtain ⟨w, hw, rfl, e⟩ := whr_some hl.ps h
  rw [e]; exact pk_where_yes N s l hl w hw
 ·exact pk_where_no N s l hl i h
theorem pk_wait_bad (N : Nat) (s : PS) (l : PkM) (hl : PkIs N s l) (a : Sp) (h : ¬ vldS a) : Spec Tryz.prog 114 [ptrQ l.p, ekS a] (pkH l) (fun r H' => r = .tuple #[.slice none 0 0, .int .i64 2] ∧ H' = pkH l) := by
 refine Spec.ofM (E := [(0, ptrQ l.p), (1, ekS a)]) Tryz.func114 rfl (by kernel_rfl) Tryz.ntmps114 rfl rfl (fun w => ?_)
 refine WC_seq (WC_region ?_)
 refine WL_do rfl rfl rfl (D_box (cs := [_, _]) rfl rfl rfl) ?_
 rintro _ _ ⟨b1, rfl, rfl⟩
 refine WLa rfl (WLa rfl (WL_nil (WQ_code (WC_seq (WC_block (WC_seq (WC_region (WLa rfl ?_))))))))
 refine WL_do rfl rfl rfl (D_call (pk_zero l) rfl rfl rfl rfl (pqY)) ?_
 rintro _ _ ⟨_, ⟨rfl, rfl⟩, rfl⟩
 refine WLa rfl (WL_nil (WQ_code ?_))
 refine WC_F rfl ?_
 refine WC_seq (WC_region ?_)
 refine WL_val rfl rfl rfl (R_loadA (vs := [_, _]) rfl ag108 rfl (mmY) rfl (atZ)) ?_
 refine WL_do rfl rfl rfl (D_call (valid_ok a) rfl rfl rfl rfl (pqY)) ?_
 rintro _ _ ⟨_, ⟨rfl, rfl⟩, rfl⟩
 refine WL_val rfl rfl rfl (R_notD rfl rfl) ?_
 refine WLa rfl (WL_nil (WQ_code ?_))
 refine WC_dT rfl (by exact h) ?_
 refine WC_seq (WC_region (WLa rfl (WLa rfl (WL_nil (WQ_code (WC_ret ?_))))))
 refine WQ_retM0 rfl rfl (.cons (.tmp rfl) (.cons (.tmp rfl) .nil)) rfl (by
   exact ⟨rfl, rfl⟩) (pqY)
theorem pk_wait_no (N : Nat) (s : PS) (l : PkM) (hl : PkIs N s l) (a : Sp) (h : vldS a) (ha : a ∉ l.QL.map (·.1)) : Spec Tryz.prog 114 [ptrQ l.p, ekS a] (pkH l) (fun r H' => r = .tuple #[.slice none 0 0, .int .i64 0] ∧ H' = pkH l) := by
 refine Spec.ofM (E := [(0, ptrQ l.p), (1, ekS a)]) Tryz.func114 rfl (by kernel_rfl) Tryz.ntmps114 rfl rfl (fun w => ?_)
 refine WC_seq (WC_region ?_)
 refine WL_do rfl rfl rfl (D_box (cs := [_, _]) rfl rfl rfl) ?_
 rintro _ _ ⟨b1, rfl, rfl⟩
 refine WLa rfl (WLa rfl (WL_nil (WQ_code (WC_seq (WC_block (WC_seq (WC_region (WLa rfl ?_))))))))
 refine WL_do rfl rfl rfl (D_call (pk_zero l) rfl rfl rfl rfl (pqY)) ?_
 rintro _ _ ⟨_, ⟨rfl, rfl⟩, rfl⟩
 refine WLa rfl (WL_nil (WQ_code ?_))
 refine WC_F rfl ?_
 refine WC_seq (WC_region ?_)
 refine WL_val rfl rfl rfl (R_loadA (vs := [_, _]) rfl ag108 rfl (mmY) rfl (atZ)) ?_
 refine WL_do rfl rfl rfl (D_call (valid_ok a) rfl rfl rfl rfl (pqY)) ?_
 rintro _ _ ⟨_, ⟨rfl, rfl⟩, rfl⟩
 refine WL_val rfl rfl rfl (R_notD rfl rfl) ?_
 refine WLa rfl (WL_nil (WQ_code ?_))
 refine WC_dF rfl (by simpa using h) ?_
 refine WC_skip (WQ_code (WC_seq (WC_region ?_)))
 refine WL_do rfl rfl rfl (D_alloc rfl zv34) ?_
 rintro _ _ ⟨b2, rfl, rfl⟩
 refine WL_nil (WQ_code (WC_seq (WC_seq ?_)))
 refine WC_draw _ [(0, true), (1, true), (2, true), (3, true), (4, true), (5, true), (6, false)] followsMixed rfl rfl (by kernel_rfl) .all ?_
 refine WMa rfl (WMa rfl ?_)
 refine WM_val rfl rfl rfl rfl (R_fieldAddr rfl fa154_2 rfl) ?_
 refine WM_val rfl rfl rfl rfl (R_load rfl sc152 rfl (mmY) rfl) ?_
 refine WM_val rfl rfl rfl rfl (R_loadA (vs := [_, _]) rfl ag108 rfl (mmY) rfl (atZ)) ?_
 refine WM_val rfl rfl rfl rfl (R_lookK0 (k := a) (zv := .pointer none) rfl Tryz.underlying152 spot_key rfl rfl (mmY) hl.mpk ha (fun w => Tryz.zeroValue177 w)) ?_
 refine WM_do rfl rfl rfl rfl (D_call (qall_nil) rfl rfl rfl rfl (pqY)) ?_
 rintro _ _ ⟨_, ⟨bc, rfl, rfl⟩, rfl⟩
 refine ⟨⟨_, pqY⟩, ?_⟩
 refine WM_nil (WQ_code (WC_block ?_))
 refine WC_range (G := Unit) (GX := Unit) (qiter_none bc) rfl rfl (fun _ => rfl) rfl (fun pre _ => True) (fun _ => []) (fun _ _ _ => False) (fun _ => []) (()) (trivial) (pqY) (pqY) ?_ ?_ ?_
 ·intro l pre x suf gg hx hI w2
  simp at hx
 ·intro dl gg hI
  refine WQ_code (WC_seq (WC_region ?_))
  refine WL_val rfl rfl rfl (R_load rfl sc34 rfl (mmY) rfl) ?_
  refine WLa rfl (WLa rfl (WL_nil (WQ_code (WC_ret ?_))))
  refine WQ_retM rfl (plY) rfl (.cons (.tmp rfl) (.cons (.tmp rfl) .nil)) rfl (by
    exact ⟨rfl, rfl⟩) (pqY)
 ·intro dl c pre gx hIx
  exact hIx.elim
theorem pk_wait_in (N : Nat) (s : PS) (p bs mb : Nat) (t : TkM) (seats : List (Sp × Nat)) (cs : Nat) (ts : List Value) (mes : Array MapEntry) (mc : Nat) (a : Sp) (q : QM) (R : List (Sp × QM)) (hl : PkIs N s ⟨p, bs, mb, t, seats, cs, ts, mes, mc, (a, q) :: R⟩) (h : vldS a) : Spec Tryz.prog 114 [ptrQ p, ekS a] (pkH ⟨p, bs, mb, t, seats, cs, ts, mes, mc, (a, q) :: R⟩)
  (fun r H' => ∃ ob c' tl', r = .tuple #[slV ob (wAt s.W a).length c', .int .i64 0] ∧ Own ob (wAt s.W a).length c' 1 (ivs (wAt s.W a)) tl' ∧ H' = ⟨ob, cl (ivs (wAt s.W a) ++ tl') 3⟩ :: pkH ⟨p, bs, mb, t, seats, cs, ts, mes, mc, (a, q) :: R⟩) := by
 have hq := (hl.q (a, q) (List.mem_cons_self ..)).1
 have hv := (hl.q (a, q) (List.mem_cons_self ..)).2
 have hln := hl.qlen (x := (a, q)) (List.mem_cons_self ..)
 dsimp only at hq hv hln
 refine Spec.ofM (E := [(0, ptrQ p), (1, ekS a)]) Tryz.func114 rfl (by kernel_rfl) Tryz.ntmps114 rfl rfl (fun w => ?_)
 refine WC_seq (WC_region ?_)
 refine WL_do rfl rfl rfl (D_box (cs := [_, _]) rfl rfl rfl) ?_
 rintro _ _ ⟨b1, rfl, rfl⟩
 refine WLa rfl (WLa rfl (WL_nil (WQ_code (WC_seq (WC_block (WC_seq (WC_region (WLa rfl ?_))))))))
 refine WL_do rfl rfl rfl (D_call (pk_zero ⟨p, bs, mb, t, seats, cs, ts, mes, mc, (a, q) :: R⟩) rfl rfl rfl rfl (pqY)) ?_
 rintro _ _ ⟨_, ⟨rfl, rfl⟩, rfl⟩
 refine WLa rfl (WL_nil (WQ_code ?_))
 refine WC_F rfl ?_
 refine WC_seq (WC_region ?_)
 refine WL_val rfl rfl rfl (R_loadA (vs := [_, _]) rfl ag108 rfl (mmY) rfl (atZ)) ?_
 refine WL_do rfl rfl rfl (D_call (valid_ok a) rfl rfl rfl rfl (pqY)) ?_
 rintro _ _ ⟨_, ⟨rfl, rfl⟩, rfl⟩
 refine WL_val rfl rfl rfl (R_notD rfl rfl) ?_
 refine WLa rfl (WL_nil (WQ_code ?_))
 refine WC_dF rfl (by simpa using h) ?_
 refine WC_skip (WQ_code (WC_seq (WC_region ?_)))
 refine WL_do rfl rfl rfl (D_alloc rfl zv34) ?_
 rintro _ _ ⟨b2, rfl, rfl⟩
 refine WL_nil (WQ_code (WC_seq (WC_seq ?_)))
 refine WC_draw _ [(0, true), (1, true), (2, true), (3, true), (4, true), (5, true), (6, false)] followsMixed rfl rfl (by kernel_rfl) .all ?_
 refine WMa rfl (WMa rfl ?_)
 refine WM_val rfl rfl rfl rfl (R_fieldAddr rfl fa154_2 rfl) ?_
 refine WM_val rfl rfl rfl rfl (R_load rfl sc152 rfl (mmY) rfl) ?_
 refine WM_val rfl rfl rfl rfl (R_loadA (vs := [_, _]) rfl ag108 rfl (mmY) rfl (atZ)) ?_
 refine WM_val rfl rfl rfl rfl (R_lookK (k := a) (a := q) rfl Tryz.underlying152 spot_key rfl rfl (mmY) hl.mpk (List.mem_cons_self ..)) ?_
 refine WM_do rfl rfl rfl rfl (D_call (qall_ok q.p q.mb q.l q.n q.es q.mc) rfl rfl rfl rfl (pqY)) ?_
 rintro _ _ ⟨_, ⟨bc, p2, m2, rfl, rfl⟩, rfl⟩
 refine ⟨⟨_, pqY⟩, ?_⟩
 refine WM_nil (WQ_code (WC_block ?_))
 refine WC_none 3 ?_
 refine WC_range (G := RS) (GX := Unit) (qiter_ok bc p2 m2 q.l q.n q.es q.mc hq.qk hq.mp) rfl rfl (fun _ => rfl) rfl (fun pre g => g.l = pre.map (·.2) ∧ pre.length ≤ q.l.length ∧ Own g.ob g.l.length g.c 1 (ivs g.l) g.tl) (fun g => [⟨some b2, cl [slV g.ob g.l.length g.c] 34⟩, ⟨g.ob, cl (ivs g.l ++ g.tl) 3⟩]) (fun _ _ _ => False) (fun _ => []) (⟨[], none, 0, []⟩) (⟨rfl, Nat.zero_le _, Own.empty 1⟩) (pqY) (pqY) ?_ ?_ ?_
 ·intro l pre x suf gg hx hI w2
  obtain ⟨hgl, hgn, hown⟩ := hI
  have hlt : pre.length < q.l.length := by rw [hx, List.length_append, List.length_cons]; omega
  have hgl2 : gg.l.length = pre.length := by rw [hgl, List.length_map]
  refine WC_region (WLa rfl (WL_nil ?_))
  refine WQ_begin (fun w3 => ?_)
  refine WC_block (WC_region ?_)
  refine WL_val rfl rfl rfl (R_load rfl sc34 rfl (mmY) rfl) ?_
  refine WLa rfl ?_
  refine WL_do rfl rfl rfl (D_buildSlice rfl si34 rfl rfl rfl) ?_
  rintro _ _ ⟨b3, rfl, rfl⟩
  refine WL_do rfl rfl rfl (D_append rfl si34 rfl (hown) (plY) rfl (mmY) ((atZ : At _ 0 [_])) (rfl) (rfl) (by omega) (by omega)) ?_
  rintro _ _ ⟨ob4, cap4, tl4, rfl, own4, rfl⟩
  have hsn : ivs gg.l ++ [Value.int .i64 x.2] = ivs (gg.l ++ [x.2]) := by simp
  rw [hsn] at own4 ⊢
  refine WL_do0 rfl rfl (D_store (vs := [_]) rfl Tryz.sizeOf34 rfl rfl rfl rfl rfl (plY) (Nat.le_of_ble_eq_true rfl)) ?_
  rintro _ _ rfl
  refine WL_nil ?_
  rw [show gg.l.length + 1 = (gg.l ++ [x.2]).length from by rw [List.length_append, List.length_singleton]]
  refine WQ_rnd (⟨gg.l ++ [x.2], ob4, cap4, tl4⟩) ?_ (pqY)
  exact (⟨by rw [hgl, List.map_append]; rfl, by rw [List.length_append, List.length_singleton]; omega, by rw [List.length_append, List.length_singleton]; exact own4⟩)
 ·intro dl gg hI
  obtain ⟨hgl, hgn, hown⟩ := hI
  rw [hv] at hgl
  rw [hgl]
  rw [hgl] at hown
  refine WQ_code (WC_seq (WC_region ?_))
  refine WL_val rfl rfl rfl (R_load rfl sc34 rfl (mmY) rfl) ?_
  refine WLa rfl (WLa rfl (WL_nil (WQ_code (WC_ret ?_))))
  refine WQ_retM rfl (plY) rfl (.cons (.tmp rfl) (.cons (.tmp rfl) .nil)) rfl (by
    exact ⟨gg.ob, gg.c, gg.tl, rfl, hown, rfl⟩) (pqY)
 ·intro dl c pre gx hIx
  exact hIx.elim
theorem pk_waiting (N : Nat) (s : PS) (l : PkM) (hl : PkIs N s l) (a : Sp) : Spec Tryz.prog 114 [ptrQ l.p, ekS a] (pkH l) (fun r H' => ∃ ob c' tl', r = .tuple #[slV ob (s.waiting a).length c', .int .i64 (spE a)] ∧ Own ob (s.waiting a).length c' 1 (ivs (s.waiting a)) tl' ∧ H' = ⟨ob, cl (ivs (s.waiting a) ++ tl') 3⟩ :: pkH l) := by
 unfold PS.waiting spE
 by_cases h : vldS a
 ·rw [if_pos h, if_pos h]
  rcases key_or l a with ha | ⟨q, R, hp⟩
  ·rw [hl.absent ha]
   exact Spec.none 3 ((pk_wait_no N s l hl a h ha).mono fun r H' ⟨e1, e2⟩ => ⟨⟨none, cl [] 3⟩, ⟨rfl, rfl⟩, none, 0, [], e1, Own.empty 1, by rw [e2]; rfl⟩)
  ·have h2 := pk_wait_in N s l.p l.bs l.mb l.t l.seats l.cs l.ts l.mes l.mc a q R (hl.to hp) h
   have hp2 := pkH_perm l hp
   exact Spec.re ((Spec.perm h2 hp2).mono fun r H' ⟨ob, c', tl', e1, e2, e3⟩ => ⟨⟨ob, cl (ivs (wAt s.W a) ++ tl') 3⟩ :: pkH l, by rw [e3]; exact .cons _ hp2.symm, ob, c', tl', e1, e2, rfl⟩)
 ·rw [if_neg h, if_neg h]
  exact Spec.none 3 ((pk_wait_bad N s l hl a h).mono fun r H' ⟨e1, e2⟩ => ⟨⟨none, cl [] 3⟩, ⟨rfl, rfl⟩, none, 0, [], e1, Own.empty 1, by rw [e2]; rfl⟩)
end Go.Proofs.YtbkdebnkoidicaaGreat
end
section
set_option linter.unusedVariables false
set_option maxRecDepth 20000
set_option maxHeartbeats 2000000
namespace Go.Proofs.YtbkdebnkoidicaaGreat
theorem pk_park_no (N : Nat) (s : PS) (l : PkM) (hl : PkIs N s l) (i : Int) (a : Sp) (h : s.parkE i a ≠ 0) : Spec Tryz.prog 48 [ptrQ l.p, .int .i64 i, ekS a] (pkH l) (fun r H' => r = .int .i64 (s.parkE i a) ∧ H' = pkH l) := by
 refine Spec.of (E := [(0, ptrQ l.p), (1, .int .i64 i), (2, ekS a)]) Tryz.func48 rfl (by kernel_rfl) Tryz.ntmps48 rfl rfl (fun w => ?_)
 refine WC_seq (WC_region ?_)
 refine WL_do rfl rfl rfl (D_box (cs := [_, _]) rfl rfl rfl) ?_
 rintro _ _ ⟨b1, rfl, rfl⟩
 refine WLa rfl (WL_nil (WQ_code (WC_seq (WC_region (WLa rfl (WLa rfl ?_))))))
 refine WL_do rfl rfl rfl (D_call (pk_state N s l hl i) rfl rfl rfl rfl (pqY)) ?_
 rintro _ _ ⟨_, ⟨rfl, rfl⟩, rfl⟩
 refine WLa rfl (WLa rfl (WLa rfl (WLa rfl (WLa rfl (WL_nil (WQ_code (WC_seq (WC_block (WC_seq (WC_region (WLa rfl ?_)))))))))))
 refine WL_val rfl rfl rfl (R_neq rfl rfl rfl) ?_
 refine WLa rfl (WL_nil (WQ_code ?_))
 refine WC_dec rfl (fun c1 => ?_) (fun c1 => ?_)
 ·have e9 : s.parkE i a = (stR s.sm i).2 := by unfold PS.parkE; rw [if_pos c1]
  refine WC_seq (WC_region (WLa rfl (WLa rfl (WL_nil (WQ_code (WC_ret ?_))))))
  refine WQ_ret rfl rfl (.cons (.tmp rfl) .nil) rfl (by
    exact ⟨by rw [e9]; rfl, rfl⟩) (pqY)
 ·have h0 : (stR s.sm i).2 = 0 := Decidable.not_not.1 c1
  refine WC_seq (WC_region ?_)
  refine WL_val rfl rfl rfl (R_loadA (vs := [_, _]) rfl ag108 rfl (mmY) rfl (atZ)) ?_
  refine WL_do rfl rfl rfl (D_call (valid_ok a) rfl rfl rfl rfl (pqY)) ?_
  rintro _ _ ⟨_, ⟨rfl, rfl⟩, rfl⟩
  refine WL_val rfl rfl rfl (R_notD rfl rfl) ?_
  refine WLa rfl (WL_nil (WQ_code ?_))
  refine WC_dec rfl (fun c2 => ?_) (fun c2 => ?_)
  ·have e9 : s.parkE i a = 2 := by unfold PS.parkE; rw [if_neg (fun e => e h0), if_neg c2]
   refine WC_seq (WC_region (WLa rfl (WL_nil (WQ_code (WC_ret ?_)))))
   refine WQ_ret rfl rfl (.cons (.tmp rfl) .nil) rfl (by
     exact ⟨by rw [e9]; rfl, rfl⟩) (pqY)
  ·have hv9 : vldS a := Decidable.not_not.1 c2
   refine WC_seq (WC_region (WLa rfl ?_))
   refine WL_val rfl rfl rfl (R_neq rfl rfl rfl) ?_
   refine WLa rfl (WL_nil (WQ_code ?_))
   refine WC_dec rfl (fun c3 => ?_) (fun c3 => ?_)
   ·have e9 : s.parkE i a = 8 := by unfold PS.parkE; rw [if_neg (fun e => e h0), if_pos hv9, if_neg c3]
    refine WC_seq (WC_region (WLa rfl (WL_nil (WQ_code (WC_ret ?_)))))
    refine WQ_ret rfl rfl (.cons (.tmp rfl) .nil) rfl (by
      exact ⟨by rw [e9]; rfl, rfl⟩) (pqY)
   ·exact absurd (by unfold PS.parkE; rw [if_neg (fun e => e h0), if_pos hv9, if_pos (Decidable.not_not.1 c3)]) h
theorem pk_park_in (N : Nat) (s : PS) (p bs mb : Nat) (t : TkM) (seats : List (Sp × Nat)) (cs : Nat) (ts : List Value) (mes : Array MapEntry) (mc : Nat) (a : Sp) (q : QM) (R : List (Sp × QM)) (hl : PkIs N s ⟨p, bs, mb, t, seats, cs, ts, mes, mc, (a, q) :: R⟩) (hN : N < 900000) (i : Nat) (hi : s.sm[i]? = some 1) (h : vldS a) : Spec Tryz.prog 48 [ptrQ p, .int .i64 (i : Int), ekS a] (pkH ⟨p, bs, mb, t, seats, cs, ts, mes, mc, (a, q) :: R⟩) (fun r H' => ∃ l' : PkM, r = .int .i64 0 ∧ H' = pkH l' ∧ l'.p = p ∧ PkIs (N + 1) (s.add i a) l') := by
 have hq := (hl.q (a, q) (List.mem_cons_self ..)).1
 have hln := hl.qlen (x := (a, q)) (List.mem_cons_self ..)
 have hqn := hq.n
 have htn := hl.tn
 have hsl : seats.length = s.sm.length := hl.ln
 have hil := (List.getElem?_eq_some_iff.1 hi).1
 obtain ⟨st0, hst⟩ := exE (T := seats) (i := i) (by omega)
 dsimp only at hq hln hqn htn
 refine Spec.of (E := [(0, ptrQ p), (1, .int .i64 (i : Int)), (2, ekS a)]) Tryz.func48 rfl (by kernel_rfl) Tryz.ntmps48 rfl rfl (fun w => ?_)
 refine WC_seq (WC_region ?_)
 refine WL_do rfl rfl rfl (D_box (cs := [_, _]) rfl rfl rfl) ?_
 rintro _ _ ⟨b1, rfl, rfl⟩
 refine WLa rfl (WL_nil (WQ_code (WC_seq (WC_region (WLa rfl (WLa rfl ?_))))))
 refine WL_do rfl rfl rfl (D_call (pk_state N s ⟨p, bs, mb, t, seats, cs, ts, mes, mc, (a, q) :: R⟩ hl (i : Int)) rfl rfl rfl rfl (pqY)) ?_
 rintro _ _ ⟨_, ⟨rfl, rfl⟩, rfl⟩
 refine WLa rfl (WLa rfl (WLa rfl (WLa rfl (WLa rfl (WL_nil (WQ_code (WC_seq (WC_block (WC_seq (WC_region (WLa rfl ?_)))))))))))
 refine WL_val rfl rfl rfl (R_neq rfl rfl rfl) ?_
 refine WLa rfl (WL_nil (WQ_code ?_))
 refine WC_dF rfl (by rw [stR_in hi]; decide) ?_
 refine WC_seq (WC_region ?_)
 refine WL_val rfl rfl rfl (R_loadA (vs := [_, _]) rfl ag108 rfl (mmY) rfl (atZ)) ?_
 refine WL_do rfl rfl rfl (D_call (valid_ok a) rfl rfl rfl rfl (pqY)) ?_
 rintro _ _ ⟨_, ⟨rfl, rfl⟩, rfl⟩
 refine WL_val rfl rfl rfl (R_notD rfl rfl) ?_
 refine WLa rfl (WL_nil (WQ_code ?_))
 refine WC_dF rfl (by simpa using h) ?_
 refine WC_seq (WC_region (WLa rfl ?_))
 refine WL_val rfl rfl rfl (R_neq rfl rfl rfl) ?_
 refine WLa rfl (WL_nil (WQ_code ?_))
 refine WC_dF rfl (by rw [stR_in hi]; decide) ?_
 refine WC_skip (WQ_code (WC_seq ?_))
 refine WC_draw _ [(0, true), (1, true), (2, true), (3, true), (4, true), (5, true), (6, true)] followsMixed rfl rfl (by kernel_rfl) .all ?_
 refine WMa rfl (WMa rfl ?_)
 refine WM_val rfl rfl rfl rfl (R_fieldAddr rfl fa154_2 rfl) ?_
 refine WM_val rfl rfl rfl rfl (R_load rfl sc152 rfl (mmY) rfl) ?_
 refine WM_val rfl rfl rfl rfl (R_loadA (vs := [_, _]) rfl ag108 rfl (mmY) rfl (atZ)) ?_
 refine WM_val rfl rfl rfl rfl (R_lookK (k := a) (a := q) rfl Tryz.underlying152 spot_key rfl rfl (mmY) hl.mpk (List.mem_cons_self ..)) ?_
 refine WMa rfl (WM_nil (WQ_code (WC_seq (WC_seq (WC_region (WLa rfl ?_))))))
 refine WL_val rfl rfl rfl (R_ptrEqNil rfl Tryz.underlying177 rfl) ?_
 refine WL_nil (WQ_code ?_)
 refine WC_F rfl ?_
 refine WC_skip (WQ_code (WC_seq (WC_region (WLa rfl (WLa rfl ?_)))))
 refine WL_do rfl rfl rfl (D_call (qpush_ok q.p q.mb q.l q.n q.es q.mc hq.qk hq.mp (by omega) (by omega) (i : Int)) rfl rfl rfl rfl (pqY)) ?_
 rintro _ _ ⟨_, ⟨es', mq', rfl, rfl, hM'⟩, rfl⟩
 refine WLa rfl (WLa rfl (WLa rfl (WLa rfl (WLa rfl (WL_nil (WQ_code (WC_seq (WC_seq (WC_region (WLa rfl ?_))))))))))
 refine WL_val rfl rfl rfl (R_neq rfl rfl rfl) ?_
 refine WL_nil (WQ_code ?_)
 refine WC_dF rfl (by decide) ?_
 refine WC_skip (WQ_code (WC_seq ?_))
 refine WC_drawR [⟨some bs, _⟩] [(0, true), (1, true), (2, true), (3, true), (4, true), (5, true), (6, true), (7, true), (8, true), (9, false)] followsMixed rfl rfl (by kernel_rfl) (pqY) ?_
 refine WMa rfl (WMa rfl ?_)
 refine WM_val rfl rfl rfl rfl (R_fieldAddr rfl fa154_1 rfl) ?_
 refine WM_val rfl rfl rfl rfl (R_load rfl sc151 rfl (mmY) rfl) ?_
 refine WMa rfl ?_
 refine WM_val rfl rfl rfl rfl (R_loadA (vs := [_, _]) rfl ag108 rfl (mmY) rfl (atZ)) ?_
 refine WMa rfl ?_
 refine WM_val rfl rfl rfl rfl (R_build rfl zv182 pl182 rfl rfl) ?_
 refine WM_val rfl rfl rfl rfl (R_indexAddrN rfl Tryz.underlying151 Tryz.sizeOf182 rfl rfl (by dsimp only; omega)) ?_
 refine WM_do0 rfl rfl rfl (D_store (vs := [_, _, _]) rfl Tryz.sizeOf182 rfl rfl rfl rfl rfl (plY) (by exact fm_room0 encSeat3 (show i < seats.length by omega) (j := 0) (by omega))) ?_
 rintro _ _ rfl
 refine ⟨⟨_, pqY⟩, ?_⟩
 have hput := fm_put0 encSeat3 ((a.1, a.2), q.n + 1) hst (j := 0) (vs := [.int .i64 a.1, .int .i64 a.2, .int .u64 ((q.n + 1 : Nat) : Int)]) (by simp) rfl (tl := ts)
 rw [Nat.add_zero] at hput
 dsimp only
 rw [hput, show seats.length = (seats.set i ((a.1, a.2), q.n + 1)).length from List.length_set.symm]
 refine WM_nil (WQ_code (WC_seq (WC_region (WLa rfl (WLa rfl ?_)))))
 refine WL_val rfl rfl rfl (R_fieldAddr rfl fa154_0 rfl) ?_
 refine WL_val rfl rfl rfl (R_load rfl sc148 rfl (mmY) rfl) ?_
 refine WLa rfl ?_
 refine WL_do rfl rfl rfl (D_call (tk_park t s.sm s.qm hl.tk (by omega) (i : Int)) rfl rfl rfl rfl (pqY)) ?_
 rintro _ _ ⟨_, ⟨t', rfl, rfl, htp, htn', ht'⟩, rfl⟩
 rw [← htp]
 refine WLa rfl (WL_nil (WQ_code (WC_ret ?_)))
 refine WQ_ret rfl rfl (.cons (.tmp rfl) .nil) rfl (by
   exact ⟨⟨p, bs, mb, t', seats.set i (a, q.n + 1), cs, ts, mes, mc, (a, ⟨q.p, q.mb, _, q.n + 1, es', mq'⟩) :: R⟩, by rw [stepR_ok hi]; rfl, rfl, rfl, hl.push rfl hi h ht' (by omega) rfl rfl rfl hM'⟩) (pqY)
theorem pk_park_out (N : Nat) (s : PS) (p bs mb : Nat) (t : TkM) (seats : List (Sp × Nat)) (cs : Nat) (ts : List Value) (mes : Array MapEntry) (mc : Nat) (a : Sp) (QL : List (Sp × QM)) (hl : PkIs N s ⟨p, bs, mb, t, seats, cs, ts, mes, mc, QL⟩) (ha : a ∉ QL.map (·.1)) (hN : N < 900000) (i : Nat) (hi : s.sm[i]? = some 1) (h : vldS a) : Spec Tryz.prog 48 [ptrQ p, .int .i64 (i : Int), ekS a] (pkH ⟨p, bs, mb, t, seats, cs, ts, mes, mc, QL⟩) (fun r H' => ∃ l' : PkM, r = .int .i64 0 ∧ H' = pkH l' ∧ l'.p = p ∧ PkIs (N + 1) (s.add i a) l') := by
 have htn := hl.tn
 have hsl : seats.length = s.sm.length := hl.ln
 have hil := (List.getElem?_eq_some_iff.1 hi).1
 obtain ⟨st0, hst⟩ := exE (T := seats) (i := i) (by omega)
 dsimp only at htn
 refine Spec.of (E := [(0, ptrQ p), (1, .int .i64 (i : Int)), (2, ekS a)]) Tryz.func48 rfl (by kernel_rfl) Tryz.ntmps48 rfl rfl (fun w => ?_)
 refine WC_seq (WC_region ?_)
 refine WL_do rfl rfl rfl (D_box (cs := [_, _]) rfl rfl rfl) ?_
 rintro _ _ ⟨b1, rfl, rfl⟩
 refine WLa rfl (WL_nil (WQ_code (WC_seq (WC_region (WLa rfl (WLa rfl ?_))))))
 refine WL_do rfl rfl rfl (D_call (pk_state N s ⟨p, bs, mb, t, seats, cs, ts, mes, mc, QL⟩ hl (i : Int)) rfl rfl rfl rfl (pqY)) ?_
 rintro _ _ ⟨_, ⟨rfl, rfl⟩, rfl⟩
 refine WLa rfl (WLa rfl (WLa rfl (WLa rfl (WLa rfl (WL_nil (WQ_code (WC_seq (WC_block (WC_seq (WC_region (WLa rfl ?_)))))))))))
 refine WL_val rfl rfl rfl (R_neq rfl rfl rfl) ?_
 refine WLa rfl (WL_nil (WQ_code ?_))
 refine WC_dF rfl (by rw [stR_in hi]; decide) ?_
 refine WC_seq (WC_region ?_)
 refine WL_val rfl rfl rfl (R_loadA (vs := [_, _]) rfl ag108 rfl (mmY) rfl (atZ)) ?_
 refine WL_do rfl rfl rfl (D_call (valid_ok a) rfl rfl rfl rfl (pqY)) ?_
 rintro _ _ ⟨_, ⟨rfl, rfl⟩, rfl⟩
 refine WL_val rfl rfl rfl (R_notD rfl rfl) ?_
 refine WLa rfl (WL_nil (WQ_code ?_))
 refine WC_dF rfl (by simpa using h) ?_
 refine WC_seq (WC_region (WLa rfl ?_))
 refine WL_val rfl rfl rfl (R_neq rfl rfl rfl) ?_
 refine WLa rfl (WL_nil (WQ_code ?_))
 refine WC_dF rfl (by rw [stR_in hi]; decide) ?_
 refine WC_skip (WQ_code (WC_seq ?_))
 refine WC_draw _ [(0, true), (1, true), (2, true), (3, true), (4, true), (5, true), (6, true)] followsMixed rfl rfl (by kernel_rfl) .all ?_
 refine WMa rfl (WMa rfl ?_)
 refine WM_val rfl rfl rfl rfl (R_fieldAddr rfl fa154_2 rfl) ?_
 refine WM_val rfl rfl rfl rfl (R_load rfl sc152 rfl (mmY) rfl) ?_
 refine WM_val rfl rfl rfl rfl (R_loadA (vs := [_, _]) rfl ag108 rfl (mmY) rfl (atZ)) ?_
 refine WM_val rfl rfl rfl rfl (R_lookK0 (k := a) (zv := .pointer none) rfl Tryz.underlying152 spot_key rfl rfl (mmY) hl.mpk ha (fun w => Tryz.zeroValue177 w)) ?_
 refine WMa rfl (WM_nil (WQ_code (WC_seq (WC_seq (WC_region (WLa rfl ?_))))))
 refine WL_val rfl rfl rfl (R_ptrEqNil rfl Tryz.underlying177 rfl) ?_
 refine WL_nil (WQ_code ?_)
 refine WC_T rfl ?_
 refine WC_seq (WC_region ?_)
 refine WL_do rfl rfl rfl (D_call (qnew_ok) rfl rfl rfl rfl (pqY)) ?_
 rintro _ _ ⟨_, ⟨pq, pm, rfl, rfl⟩, rfl⟩
 refine WLa rfl (WL_nil (WQ_code ?_))
 refine WC_drawR [⟨some mb, _⟩] [(0, true), (1, true), (2, true), (3, true), (4, true), (5, true), (6, false)] followsMixed rfl rfl (by kernel_rfl) (pqY) ?_
 refine WMa rfl (WMa rfl ?_)
 refine WM_val rfl rfl rfl rfl (R_fieldAddr rfl fa154_2 rfl) ?_
 refine WM_val rfl rfl rfl rfl (R_load rfl sc152 rfl (mmY) rfl) ?_
 refine WM_val rfl rfl rfl rfl (R_loadA (vs := [_, _]) rfl ag108 rfl (mmY) rfl (atZ)) ?_
 refine WMa rfl ?_
 refine WM_do0 rfl rfl rfl (D_mapAddK (k := a) (v := (⟨pq, pm, [], 0, #[], 0⟩ : QM)) rfl Tryz.underlying152 spot_key rfl rfl rfl (plY) hl.mpk ha) ?_
 rintro _ _ ⟨mes', hmk', rfl⟩
 refine ⟨⟨_, pqY⟩, ?_⟩
 have hl2 := hl.addkey ha pq pm hmk'
 refine WM_nil (WQ_code (WC_seq (WC_region (WLa rfl (WLa rfl ?_)))))
 refine WL_do rfl rfl rfl (D_call (qpush_ok pq pm [] 0 #[] 0 (Qk.empty 0) mp_new (by decide) (by decide) (i : Int)) rfl rfl rfl rfl (pqY)) ?_
 rintro _ _ ⟨_, ⟨es', mq', rfl, rfl, hM'⟩, rfl⟩
 refine WLa rfl (WLa rfl (WLa rfl (WLa rfl (WLa rfl (WL_nil (WQ_code (WC_seq (WC_seq (WC_region (WLa rfl ?_))))))))))
 refine WL_val rfl rfl rfl (R_neq rfl rfl rfl) ?_
 refine WL_nil (WQ_code ?_)
 refine WC_dF rfl (by decide) ?_
 refine WC_skip (WQ_code (WC_seq ?_))
 refine WC_drawR [⟨some bs, _⟩] [(0, true), (1, true), (2, true), (3, true), (4, true), (5, true), (6, true), (7, true), (8, true), (9, false)] followsMixed rfl rfl (by kernel_rfl) (pqY) ?_
 refine WMa rfl (WMa rfl ?_)
 refine WM_val rfl rfl rfl rfl (R_fieldAddr rfl fa154_1 rfl) ?_
 refine WM_val rfl rfl rfl rfl (R_load rfl sc151 rfl (mmY) rfl) ?_
 refine WMa rfl ?_
 refine WM_val rfl rfl rfl rfl (R_loadA (vs := [_, _]) rfl ag108 rfl (mmY) rfl (atZ)) ?_
 refine WMa rfl ?_
 refine WM_val rfl rfl rfl rfl (R_build rfl zv182 pl182 rfl rfl) ?_
 refine WM_val rfl rfl rfl rfl (R_indexAddrN rfl Tryz.underlying151 Tryz.sizeOf182 rfl rfl (by dsimp only; omega)) ?_
 refine WM_do0 rfl rfl rfl (D_store (vs := [_, _, _]) rfl Tryz.sizeOf182 rfl rfl rfl rfl rfl (plY) (by exact fm_room0 encSeat3 (show i < seats.length by omega) (j := 0) (by omega))) ?_
 rintro _ _ rfl
 refine ⟨⟨_, pqY⟩, ?_⟩
 have hput := fm_put0 encSeat3 ((a.1, a.2), 0 + 1) hst (j := 0) (vs := [.int .i64 a.1, .int .i64 a.2, .int .u64 ((0 + 1 : Nat) : Int)]) (by simp) rfl (tl := ts)
 rw [Nat.add_zero] at hput
 dsimp only
 rw [hput, show seats.length = (seats.set i ((a.1, a.2), 0 + 1)).length from List.length_set.symm]
 refine WM_nil (WQ_code (WC_seq (WC_region (WLa rfl (WLa rfl ?_)))))
 refine WL_val rfl rfl rfl (R_fieldAddr rfl fa154_0 rfl) ?_
 refine WL_val rfl rfl rfl (R_load rfl sc148 rfl (mmY) rfl) ?_
 refine WLa rfl ?_
 refine WL_do rfl rfl rfl (D_call (tk_park t s.sm s.qm hl.tk (by omega) (i : Int)) rfl rfl rfl rfl (pqY)) ?_
 rintro _ _ ⟨_, ⟨t', rfl, rfl, htp, htn', ht'⟩, rfl⟩
 rw [← htp]
 refine WLa rfl (WL_nil (WQ_code (WC_ret ?_)))
 refine WQ_ret rfl rfl (.cons (.tmp rfl) .nil) rfl (by
   exact ⟨⟨p, bs, mb, t', seats.set i (a, 0 + 1), cs, ts, mes', mc + 1, (a, ⟨pq, pm, _, 0 + 1, es', mq'⟩) :: QL⟩, by rw [stepR_ok hi]; rfl, rfl, rfl, hl2.push rfl hi h ht' (by omega) rfl rfl rfl hM'⟩) (pqY)
theorem pk_park (N : Nat) (s : PS) (l : PkM) (hl : PkIs N s l) (hN : N < 900000) (i : Int) (a : Sp) : Spec Tryz.prog 48 [ptrQ l.p, .int .i64 i, ekS a] (pkH l) (fun r H' => ∃ l' : PkM, r = .int .i64 (s.parkE i a) ∧ H' = pkH l' ∧ l'.p = l.p ∧ PkIs (N + 1) (s.park i a) l') := by
 by_cases h : s.parkE i a = 0
 ·have h2 := h
  unfold PS.parkE at h2
  by_cases h0 : (stR s.sm i).2 = 0
  ·rw [if_neg (fun e => e h0)] at h2
   obtain ⟨j, x, rfl, hx, hst⟩ := stR_some h0
   by_cases ha : vldS a
   ·rw [if_pos ha] at h2
    by_cases h1 : (stR s.sm (j : Int)).1 = 1
    ·have hj : s.sm[j]? = some 1 := by rw [hx, ← hst, h1]
     obtain ⟨e1, e2⟩ := park_ok' hl.ps hj ha
     rw [e1, e2]
     rcases key_or l a with hk | ⟨q, R, hp⟩
     ·exact pk_park_out N s l.p l.bs l.mb l.t l.seats l.cs l.ts l.mes l.mc a l.QL hl hk hN j hj ha
     ·exact Spec.perm (pk_park_in N s l.p l.bs l.mb l.t l.seats l.cs l.ts l.mes l.mc a q R (hl.to hp) hN j hj ha) (pkH_perm l hp)
    ·rw [if_neg h1] at h2; cases h2
   ·rw [if_neg ha] at h2; cases h2
  ·rw [if_pos h0] at h2; exact absurd h2 h0
 ·rw [park_no s h]
  exact (pk_park_no N s l hl i a h).mono fun r H' ⟨e1, e2⟩ => ⟨l, e1, e2, rfl, hl.mono (Nat.le_succ N)⟩
theorem pk_out0 (N : Nat) (s : PS) (p bs mb : Nat) (t : TkM) (seats : List (Sp × Nat)) (cs : Nat) (ts : List Value) (mes : Array MapEntry) (mc : Nat) (z : Wt) (hz : z ∈ s.W) (tk : Nat) (q : QM) (R : List (Sp × QM)) (A B : List (Nat × Int)) (hl : PkIs N s ⟨p, bs, mb, t, seats, cs, ts, mes, mc, (z.at_, q) :: R⟩) (hst : seats[z.i]? = some (z.at_, tk)) (hqe : q.l = A ++ (tk, (z.i : Int)) :: B) (hN : N < 900000) : Spec Tryz.prog 115 [ptrQ p, .int .i64 (z.i : Int)] (pkH ⟨p, bs, mb, t, seats, cs, ts, mes, mc, (z.at_, q) :: R⟩) (fun r H' => ∃ l' : PkM, r = .tuple #[] ∧ H' = pkH l' ∧ l'.p = p ∧ PkIs (N + 1) (s.out z.i) l') := by
 have hq := (hl.q (z.at_, q) (List.mem_cons_self ..)).1
 have htn := hl.tn
 have hlt := (List.getElem?_eq_some_iff.1 hst).1
 obtain ⟨qp, qb, ql, qn, qes, qmc⟩ := q
 dsimp only at hq htn hqe
 subst hqe
 have hqk : Qk (A ++ (tk, (z.i : Int)) :: B) qn := hq.qk
 have hqm : Mp (.int .u64) ekQ evQ qes (nds 0 0 (A ++ (tk, (z.i : Int)) :: B)) := hq.mp
 refine Spec.of (E := [(0, ptrQ p), (1, .int .i64 (z.i : Int))]) Tryz.func115 rfl (by kernel_rfl) Tryz.ntmps115 rfl rfl (fun w => ?_)
 refine WC_seq (WC_region (WLa rfl (WLa rfl ?_)))
 refine WL_val rfl rfl rfl (R_fieldAddr rfl fa154_1 rfl) ?_
 refine WL_val rfl rfl rfl (R_load rfl sc151 rfl (mmY) rfl) ?_
 refine WLa rfl ?_
 refine WL_val rfl rfl rfl (R_indexAddrN rfl Tryz.underlying151 Tryz.sizeOf182 rfl rfl (by omega)) ?_
 refine WL_val rfl rfl rfl (R_loadA (vs := encSeat (z.at_, tk)) rfl ag182 rfl (mmY) rfl (fm_at0 encSeat3 hst (j := 0) (vs := encSeat (z.at_, tk)) (fun j v h => by rw [Nat.zero_add]; exact h) (Nat.le_refl 3))) ?_
 refine WL_do rfl rfl rfl (D_alloc rfl zv182) ?_
 rintro _ _ ⟨b1, rfl, rfl⟩
 refine WL_do0 rfl rfl (D_store (vs := [_, _, _]) rfl Tryz.sizeOf182 rfl rfl rfl rfl rfl (plY) (Nat.le_of_ble_eq_true rfl)) ?_
 rintro _ _ rfl
 refine WL_nil (WQ_code (WC_seq ?_))
 refine WC_drawR [⟨some qp, _⟩, ⟨some qb, _⟩] [(0, true), (1, true), (2, true), (3, true), (4, true), (5, true), (6, true), (7, true), (8, true), (9, false)] followsMixed rfl rfl (by kernel_rfl) (pqY) ?_
 refine WMa rfl (WMa rfl ?_)
 refine WM_val rfl rfl rfl rfl (R_fieldAddr rfl fa154_2 rfl) ?_
 refine WM_val rfl rfl rfl rfl (R_load rfl sc152 rfl (mmY) rfl) ?_
 refine WM_val rfl rfl rfl rfl (R_fieldAddr rfl fa182_0 rfl) ?_
 refine WM_val rfl rfl rfl rfl (R_loadA (vs := [_, _]) rfl ag108 rfl (mmY) rfl (atZ)) ?_
 refine WM_val rfl rfl rfl rfl (R_lookK (k := z.at_) (a := (⟨qp, qb, A ++ (tk, (z.i : Int)) :: B, qn, qes, qmc⟩ : QM)) rfl Tryz.underlying152 spot_key rfl rfl (mmY) hl.mpk (List.mem_cons_self ..)) ?_
 refine WM_val rfl rfl rfl rfl (R_fieldAddr rfl fa182_1 rfl) ?_
 refine WM_val rfl rfl rfl rfl (R_load rfl sc27 rfl (mmY) rfl) ?_
 refine WM_do rfl rfl rfl rfl (D_call (qrem_ok qp qb A B tk (z.i : Int) qn qes qmc hqk hqm) rfl rfl rfl rfl (pqY)) ?_
 rintro _ _ ⟨_, ⟨es', mq', rfl, rfl, hM'⟩, rfl⟩
 refine ⟨⟨_, pqY⟩, ?_⟩
 refine WM_nil (WQ_code (WC_region (WLa rfl (WLa rfl ?_))))
 refine WL_val rfl rfl rfl (R_fieldAddr rfl fa154_0 rfl) ?_
 refine WL_val rfl rfl rfl (R_load rfl sc148 rfl (mmY) rfl) ?_
 refine WLa rfl ?_
 refine WL_do rfl rfl rfl (D_call (tk_wake t s.sm s.qm hl.tk (by omega) (z.i : Int)) rfl rfl rfl rfl (pqY)) ?_
 rintro _ _ ⟨_, ⟨t', rfl, rfl, htp, htn', ht'⟩, rfl⟩
 rw [← htp]
 refine WL_nil ?_
 refine WQ_ret rfl rfl .nil rfl (by
   exact ⟨⟨p, bs, mb, t', seats, cs, ts, mes, mc, (z.at_, ⟨qp, qb, A ++ B, qn, es', mq'⟩) :: R⟩, rfl, rfl, rfl, hl.pop hz rfl rfl ht' (by omega) rfl rfl rfl hM'⟩) (pqY)
theorem pk_out (N : Nat) (s : PS) (l : PkM) (hl : PkIs N s l) (hN : N < 900000) (z : Wt) (hz : z ∈ s.W) : Spec Tryz.prog 115 [ptrQ l.p, .int .i64 (z.i : Int)] (pkH l) (fun r H' => ∃ l' : PkM, r = .tuple #[] ∧ H' = pkH l' ∧ l'.p = l.p ∧ PkIs (N + 1) (s.out z.i) l') := by
 obtain ⟨tk, q, R, A, B, h1, hp, h2⟩ := hl.at_ hz
 exact Spec.perm (pk_out0 N s l.p l.bs l.mb l.t l.seats l.cs l.ts l.mes l.mc z hz tk q R A B (hl.to hp) h1 h2 hN) (pkH_perm l hp)
end Go.Proofs.YtbkdebnkoidicaaGreat
end
section
set_option linter.unusedVariables false
set_option maxRecDepth 20000
set_option maxHeartbeats 2000000
namespace Go.Proofs.YtbkdebnkoidicaaGreat
theorem wakeR_bad (s : PS) {a : Sp} (h : ¬ vldS a) : s.wakeR a = (0, 2) := by unfold PS.wakeR; rw [if_neg h]
theorem wakeR_none (s : PS) {a : Sp} (h : vldS a) (e : wAt s.W a = []) : s.wakeR a = (0, 9) := by unfold PS.wakeR; rw [if_pos h, e]
theorem wakeR_some (s : PS) {a : Sp} (h : vldS a) {v : Int} (e : (wAt s.W a)[0]? = some v) : s.wakeR a = (v, 0) := by
 unfold PS.wakeR
 rw [if_pos h]
 cases hl : wAt s.W a with
 | nil => rw [hl] at e; cases e
 | cons x r => rw [hl] at e; simp at e; rw [e]
theorem pk_wake (N : Nat) (s : PS) (l : PkM) (hl : PkIs N s l) (hN : N < 900000) (a : Sp) : Spec Tryz.prog 55 [ptrQ l.p, ekS a] (pkH l) (fun r H' => ∃ l' : PkM, r = .tuple #[.int .i64 (s.wakeR a).1, .int .i64 (s.wakeR a).2] ∧ H' = pkH l' ∧ l'.p = l.p ∧ PkIs (N + 1) (s.wake a) l') := by
 refine Spec.of (E := [(0, ptrQ l.p), (1, ekS a)]) Tryz.func55 rfl (by kernel_rfl) Tryz.ntmps55 rfl rfl (fun w => ?_)
 refine WC_seq (WC_region ?_)
 refine WL_do rfl rfl rfl (D_box (cs := [_, _]) rfl rfl rfl) ?_
 rintro _ _ ⟨b1, rfl, rfl⟩
 refine WLa rfl (WLa rfl (WL_nil (WQ_code (WC_seq (WC_region (WLa rfl ?_))))))
 refine WL_val rfl rfl rfl (R_loadA (vs := [_, _]) rfl ag108 rfl (mmY) rfl (atZ)) ?_
 refine WL_do rfl rfl rfl (D_call (pk_waiting N s l hl a) rfl rfl rfl rfl (pqY)) ?_
 rintro _ _ ⟨_, ⟨ob, c', tl', rfl, own', rfl⟩, rfl⟩
 refine WLa rfl (WLa rfl (WLa rfl (WLa rfl (WLa rfl (WL_nil (WQ_code (WC_seq (WC_block (WC_seq (WC_region (WLa rfl ?_)))))))))))
 refine WL_val rfl rfl rfl (R_neq rfl rfl rfl) ?_
 refine WLa rfl (WL_nil (WQ_code ?_))
 refine WC_dec rfl (fun c1 => ?_) (fun c1 => ?_)
 ·have hv : ¬ vldS a := fun h9 => by unfold spE at c1; rw [if_pos h9] at c1; exact c1 rfl
  have e9 := wakeR_bad s hv
  have hsp : spE a = 2 := if_neg hv
  refine WC_seq (WC_region (WLa rfl (WLa rfl (WLa rfl (WL_nil (WQ_code (WC_ret ?_)))))))
  refine WQ_ret rfl rfl (.cons (.tmp rfl) (.cons (.tmp rfl) .nil)) rfl (by
    exact ⟨l, by rw [e9, hsp]; rfl, rfl, rfl, by unfold PS.wake; rw [e9, if_neg (by decide)]; exact hl.mono (Nat.le_succ N)⟩) (pqY)
 ·have hv : vldS a := by by_cases h9 : vldS a; exact h9; (unfold spE at c1; rw [if_neg h9] at c1; exact absurd (by decide) c1)
  have hwt : s.waiting a = wAt s.W a := by unfold PS.waiting; rw [if_pos hv]
  refine WC_seq (WC_region (WLa rfl ?_))
  refine WL_val rfl rfl rfl (R_len rfl Tryz.underlying34 rfl) ?_
  refine WL_val rfl rfl rfl (R_eql rfl rfl rfl) ?_
  refine WLa rfl (WL_nil (WQ_code ?_))
  refine WC_dec rfl (fun c2 => ?_) (fun c2 => ?_)
  ·have e9 := wakeR_none s hv (by rw [← hwt]; exact List.eq_nil_of_length_eq_zero (by omega))
   refine WC_seq (WC_region (WLa rfl (WLa rfl (WL_nil (WQ_code (WC_ret ?_))))))
   refine WQ_ret rfl rfl (.cons (.tmp rfl) (.cons (.tmp rfl) .nil)) rfl (by
     exact ⟨l, by rw [e9]; rfl, rfl, rfl, by unfold PS.wake; rw [e9, if_neg (by decide)]; exact hl.mono (Nat.le_succ N)⟩) (pqY)
  ·obtain ⟨v, hx⟩ := exE (T := s.waiting a) (i := 0) (by omega)
   have e9 := wakeR_some s hv (hwt ▸ hx)
   obtain ⟨z, hz, hza, rfl⟩ := wAt_mem.1 (show v ∈ wAt s.W a by rw [← hwt]; exact List.mem_of_getElem? hx)
   obtain ⟨wb, hwb⟩ := own'.some_of (by omega)
   rw [hwb]
   refine WC_skip (WQ_code (WC_seq (WC_region (WLa rfl (WLa rfl ?_)))))
   refine WL_val rfl rfl rfl (R_indexAddrN rfl Tryz.underlying34 Tryz.sizeOf3 rfl rfl (by simp; omega)) ?_
   refine WL_val rfl rfl rfl (R_load (v := .int .i64 (z.i : Int)) rfl sc3 rfl (mmY) (fm_get0 encI1 hx (j := 0) (by omega))) ?_
   refine WL_do rfl rfl rfl (D_call (pk_out N s l hl hN z hz) rfl rfl rfl rfl (pqY)) ?_
   rintro _ _ ⟨_, ⟨l', rfl, rfl, hlp, hl'⟩, rfl⟩
   refine WL_nil (WQ_code (WC_seq (WC_region (WLa rfl ?_))))
   refine WL_val rfl rfl rfl (R_indexAddrN rfl Tryz.underlying34 Tryz.sizeOf3 rfl rfl (by simp; omega)) ?_
   refine WL_val rfl rfl rfl (R_load (v := .int .i64 (z.i : Int)) rfl sc3 rfl (mmY) (fm_get0 encI1 hx (j := 0) (by omega))) ?_
   refine WLa rfl (WLa rfl (WL_nil (WQ_code (WC_ret ?_))))
   refine WQ_ret rfl rfl (.cons (.tmp rfl) (.cons (.tmp rfl) .nil)) rfl (by
     exact ⟨l', by rw [e9]; rfl, rfl, hlp, by unfold PS.wake; rw [e9, if_pos rfl]; exact hl'⟩) (pqY)
structure WkW where
 k : Nat
 l : PkM
theorem waiting_len {s : PS} (h : PsOk s) (a : Sp) : (s.waiting a).length ≤ 64 := by
 unfold PS.waiting
 split
 ·exact Nat.le_trans (wAt_len _ _) h.few
 ·exact Nat.zero_le _
theorem pk_wakeall0 (N : Nat) (s : PS) (l : PkM) (hl : PkIs N s l) (hN : N < 899000) (a : Sp) : Spec Tryz.prog 90 [ptrQ l.p, ekS a] (pkH l) (fun r H' => ∃ (l' : PkM) (ob : Option Nat) (c' : Nat) (tl' : List Value), r = .tuple #[slV ob (s.waiting a).length c', .int .i64 (spE a)] ∧ Own ob (s.waiting a).length c' 1 (ivs (s.waiting a)) tl' ∧ H' = ⟨ob, cl (ivs (s.waiting a) ++ tl') 3⟩ :: pkH l' ∧ l'.p = l.p ∧ PkIs (N + (s.waiting a).length) (s.wakeAll a) l') := by
 have hwl := waiting_len hl.ps a
 refine Spec.of (E := [(0, ptrQ l.p), (1, ekS a)]) Tryz.func90 rfl (by kernel_rfl) Tryz.ntmps90 rfl rfl (fun w => ?_)
 refine WC_seq (WC_region ?_)
 refine WL_do rfl rfl rfl (D_box (cs := [_, _]) rfl rfl rfl) ?_
 rintro _ _ ⟨b1, rfl, rfl⟩
 refine WLa rfl (WLa rfl (WL_nil (WQ_code (WC_seq (WC_region (WLa rfl ?_))))))
 refine WL_val rfl rfl rfl (R_loadA (vs := [_, _]) rfl ag108 rfl (mmY) rfl (atZ)) ?_
 refine WL_do rfl rfl rfl (D_call (pk_waiting N s l hl a) rfl rfl rfl rfl (pqY)) ?_
 rintro _ _ ⟨_, ⟨ob, c', tl', rfl, own', rfl⟩, rfl⟩
 refine WLa rfl (WLa rfl (WLa rfl (WLa rfl (WLa rfl (WL_nil (WQ_code (WC_seq (WC_seq (WC_region (WLa rfl ?_))))))))))
 refine WL_val rfl rfl rfl (R_len rfl Tryz.underlying34 rfl) ?_
 refine WLa rfl (WL_nil (WQ_code (WC_block ?_)))
 refine WC_loopF (G := WkW) [9, 18, 19, 20, 21, 22, 23, 24, 25] (fun y => y.k ≤ (s.waiting a).length ∧ PkIs (N + y.k) (((s.waiting a).take y.k).foldl PS.out s) y.l ∧ y.l.p = l.p) (fun y => [(18, .int .i64 (y.k : Int))]) (fun y => pkH y.l) (fun y => (s.waiting a).length - y.k) (⟨0, l⟩) (⟨Nat.zero_le _, hl, rfl⟩) leZ (pqY) ?_
 rintro y ⟨hyk, hy, hyp⟩
 rw [← hyp]
 refine WC_seq (WC_region ?_)
 refine WL_val rfl rfl rfl (R_lss rfl rfl rfl) ?_
 refine WL_nil (WQ_code (WC_seq ?_))
 refine WC_dec rfl (fun c1 => ?_) (fun c1 => ?_)
 ·refine WC_skip (WQ_code (WC_seq (WC_block (WC_seq (WC_region ?_)))))
  obtain ⟨v, hx⟩ := exE (T := s.waiting a) (i := y.k) (by omega)
  obtain ⟨wb, hwb⟩ := own'.some_of (by omega)
  rw [hwb]
  have hv : vldS a := by by_cases h9 : vldS a; exact h9; (unfold PS.waiting at hx; rw [if_neg h9] at hx; cases hx)
  have hwt : s.waiting a = wAt s.W a := by unfold PS.waiting; rw [if_pos hv]
  have hwk := wakes_ok hl.ps a y.k (by rw [← hwt]; omega)
  rw [← hwt] at hwk
  obtain ⟨z, hz, hza, rfl⟩ := wAt_mem.1 (show v ∈ wAt (((s.waiting a).take y.k).foldl PS.out s).W a by rw [hwk.2.1]; exact List.mem_of_getElem? (i := 0) (by rw [List.getElem?_drop]; exact hx))
  refine WL_val rfl rfl rfl (R_indexAddrN rfl Tryz.underlying34 Tryz.sizeOf3 rfl rfl (by omega)) ?_
  refine WL_val rfl rfl rfl (R_load (v := .int .i64 (z.i : Int)) rfl sc3 rfl (mmY) (fm_get0 encI1 hx (j := 0) (by omega))) ?_
  refine WLa rfl (WL_nil (WQ_code (WC_region (WLa rfl (WLa rfl ?_)))))
  refine WL_do rfl rfl rfl (D_call (pk_out (N + y.k) (((s.waiting a).take y.k).foldl PS.out s) y.l hy (by omega) z hz) rfl rfl rfl rfl (pqY)) ?_
  rintro _ _ ⟨_, ⟨l', rfl, rfl, hlp, hl'⟩, rfl⟩
  refine WL_nil (WQ_code (WC_region ?_))
  refine WL_val rfl rfl rfl (R_add rfl rfl rfl (by omega)) ?_
  refine WLa rfl (WL_nil ?_)
  refine WQ_nextF (⟨y.k + 1, l'⟩) (⟨by dsimp only; omega, by dsimp only; rw [take_get hx, List.foldl_append]; exact hl', hlp.trans rfl⟩) (by dsimp only; omega) leZ (psZ) rfl (pqY)
 ·have hyl : y.k = (s.waiting a).length := by omega
  have hfin : PkIs (N + (s.waiting a).length) (s.wakeAll a) y.l := by have h9 := hy; rw [hyl, List.take_length] at h9; exact h9
  refine WC_exit (WQ_code (WC_seq (WC_region (WLa rfl (WLa rfl (WLa rfl (WLa rfl (WL_nil (WQ_code (WC_ret ?_))))))))))
  refine WQ_ret rfl rfl (.cons (.tmp rfl) (.cons (.tmp rfl) .nil)) rfl (by
    exact ⟨y.l, ob, c', tl', rfl, own', rfl, rfl, hfin⟩) (pqY)
end Go.Proofs.YtbkdebnkoidicaaGreat
end
section
set_option linter.unusedVariables false
set_option maxRecDepth 20000
namespace Go.Proofs.YtbkdebnkoidicaaGreat
theorem nodup_inj {α β : Type} {f : α → β} {l : List α} (h : (l.map f).Nodup) {a b : α} (ha : a ∈ l) (hb : b ∈ l) (e : f a = f b) : a = b := by
 obtain ⟨i, hi, rfl⟩ := List.mem_iff_getElem.1 ha
 obtain ⟨j, hj, rfl⟩ := List.mem_iff_getElem.1 hb
 rw [List.Nodup, List.pairwise_map, List.pairwise_iff_getElem] at h
 rcases Nat.lt_trichotomy i j with q | q | q
 ·exact absurd e (h i j hi hj q)
 ·subst q; rfl
 ·exact absurd e.symm (h j i hj hi q)
theorem mk_keys {mes : Array MapEntry} {mc : Nat} {QL : List (Sp × QM)} (h : Mk ekS evP mes mc QL) : (mes.toList.map (·.key)).Nodup := by
 have h1 : ((mes.toList.map fun e => (e.key, e.val)).map Prod.fst).Perm ((QL.map fun x => (ekS x.1, evP x.2)).map Prod.fst) := h.perm.map _
 rw [List.map_map, List.map_map] at h1
 refine h1.nodup_iff.2 ?_
 have h2 := h.nodup
 rw [List.Nodup, List.pairwise_map] at h2 ⊢
 exact h2.imp fun hne e => hne (ekS_inj _ _ e)
structure Cp (l : PkM) (seen : Array Nat) (QL : List (Sp × QM)) : Prop where
 src : ∀ x ∈ QL, ∃ q, (x.1, q) ∈ l.QL ∧ x.2.l = q.l ∧ x.2.n = q.n ∧ x.2.es = q.es
 seen : ∀ e ∈ l.mes.toList, ∀ k : Sp, e.key = ekS k → (e.born ∈ seen ↔ k ∈ QL.map (·.1))
theorem Cp.new (l : PkM) : Cp l #[] [] := ⟨fun x hx => (by cases hx), fun e _ k _ => by simp⟩
section
variable {N : Nat} {s : PS} {l : PkM} {seen : Array Nat} {QL : List (Sp × QM)}
theorem Cp.fresh (h : Cp l seen QL) {e : MapEntry} (he : e ∈ l.mes.toList) (hs : e.born ∉ seen) {k : Sp} (hk : e.key = ekS k) : k ∉ QL.map (·.1) := fun hm => hs ((h.seen e he k hk).2 hm)
theorem Cp.next (h : Cp l seen QL) (hl : PkIs N s l) {e : MapEntry} (he : e ∈ l.mes.toList) {k : Sp} {q q' : QM} (hk : e.key = ekS k) (hq : (k, q) ∈ l.QL) (h1 : q'.l = q.l) (h2 : q'.n = q.n) (h3 : q'.es = q.es) : Cp l (seen.push e.born) ((k, q') :: QL) := by
 refine ⟨fun x hx => ?_, fun e2 he2 k2 hk2 => ?_⟩
 ·rcases List.mem_cons.1 hx with rfl | hx
  ·exact ⟨q, hq, h1, h2, h3⟩
  ·exact h.src x hx
 ·rw [Array.mem_push, List.map_cons, List.mem_cons, h.seen e2 he2 k2 hk2]
  constructor
  ·rintro (q1 | q1)
   ·exact .inr q1
   ·have := nodup_inj hl.mpk.bnd he2 he q1
    subst this
    exact .inl (ekS_inj _ _ (hk2.symm.trans hk))
  ·rintro (q1 | q1)
   ·have : e2 = e := nodup_inj (mk_keys hl.mpk) he2 he (by rw [hk2, hk, q1])
    rw [this]; exact .inr rfl
   ·exact .inl q1
theorem Cp.len (h : Cp l seen QL) (hn : (QL.map (·.1)).Nodup) : QL.length ≤ l.QL.length := by
 have := List.Nodup.length_le_of_subset hn (l₂ := l.QL.map (·.1)) fun k hk => by
  obtain ⟨x, hx, rfl⟩ := List.mem_map.1 hk
  obtain ⟨q, hq, _⟩ := h.src x hx
  exact List.mem_map.2 ⟨_, hq, rfl⟩
 rw [List.length_map, List.length_map] at this; exact this
theorem Cp.done (h : Cp l seen QL) (hl : PkIs N s l) (hall : ∀ e ∈ l.mes.toList, e.born ∈ seen) {mes : Array MapEntry} {mc : Nat} (hM : Mk ekS evP mes mc QL) {t' : TkM} (ht : TkIs s.sm s.qm t') (htn : t'.n = l.t.n) (p bs mb cs : Nat) (ts : List Value) : PkIs N s ⟨p, bs, mb, t', l.seats, cs, ts, mes, mc, QL⟩ := by
 refine ⟨hl.ps, ht, by rw [htn]; exact hl.tn, hl.ln, hM, fun x hx => ?_, fun z hz => ?_⟩
 ·obtain ⟨q, hq, h1, h2, h3⟩ := h.src x hx
  have h4 := hl.q _ hq
  exact ⟨⟨by rw [h1, h2]; exact h4.1.qk, by rw [h1, h3]; exact h4.1.mp, by rw [h2]; exact h4.1.n⟩, by rw [h1]; exact h4.2⟩
 ·obtain ⟨t, q, h1, h2, h3⟩ := hl.seat z hz
  obtain ⟨e, he, hk, _⟩ := hl.mpk.has h2
  have hm := (h.seen e he z.at_ hk).1 (hall e he)
  obtain ⟨⟨k, q'⟩, hx, rfl⟩ := List.mem_map.1 hm
  obtain ⟨q2, hq2, h5, _⟩ := h.src _ hx
  have := key_uniq hl.mpk.nodup h2 hq2
  subst this
  exact ⟨t, q', h1, hx, by rw [h5]; exact h3⟩
end
structure CpW where
 seen : Array Nat
 mes : Array MapEntry
 mc : Nat
 QL : List (Sp × QM)
theorem qcopy_in (QL : List (Sp × QM)) (x : Sp × QM) (hx : x ∈ QL) : Spec Tryz.prog 145 [ptrQ x.2.p] (qsH QL) (fun r H' => ∃ q' : QM, r = ptrQ q'.p ∧ q'.l = x.2.l ∧ q'.n = x.2.n ∧ q'.es = x.2.es ∧ H' = qmH q' ++ qsH QL) := by
 obtain ⟨P, Q, e⟩ := List.append_of_mem hx
 have hp : QL.Perm (x :: (P ++ Q)) := by rw [e]; exact List.perm_middle
 refine Spec.perm (Spec.re (((qcopy_ok x.2.p x.2.mb x.2.l x.2.n x.2.es x.2.mc).fr (qsH (P ++ Q))).mono fun r H' ⟨H1, ⟨p2, m2, e1, e2⟩, e3⟩ => ⟨_, ?_, ⟨p2, m2, x.2.l, x.2.n, x.2.es, x.2.mc⟩, e1, rfl, rfl, rfl, rfl⟩)) (qsH_perm hp)
 rw [e3, e2, List.append_assoc]
 exact List.Perm.append_left _ (qsH_perm hp).symm
end Go.Proofs.YtbkdebnkoidicaaGreat
end
section
set_option linter.unusedVariables false
set_option maxRecDepth 20000
set_option maxHeartbeats 2000000
namespace Go.Proofs.YtbkdebnkoidicaaGreat
theorem cseat_ok (bs c : Nat) (tl : List Value) (S : List (Sp × Nat)) (hl : 1 ≤ S.length ∧ S.length ≤ 64) : Spec Tryz.prog 144 [.slice (some ⟨bs, 0, none⟩) S.length c] [⟨some bs, cl (S.flatMap encSeat ++ tl) 182⟩]
  (fun r H' => ∃ b c2 tl2, r = .slice (some ⟨b, 0, none⟩) S.length c2 ∧ H' = [⟨some b, cl (S.flatMap encSeat ++ tl2) 182⟩, ⟨some bs, cl (S.flatMap encSeat ++ tl) 182⟩]) := by
 refine Spec.of (E := [(0, .slice (some ⟨bs, 0, none⟩) S.length c)]) Tryz.func144 rfl (by kernel_rfl) Tryz.ntmps144 rfl rfl (fun w => ?_)
 refine WC_seq (WC_region (WLa rfl (WL_nil (WQ_code (WC_seq (WC_seq (WC_region (WLa rfl ?_))))))))
 refine WL_val rfl rfl rfl (R_sliceEqNil rfl Tryz.underlying151 rfl) ?_
 refine WL_nil (WQ_code ?_)
 refine WC_F rfl ?_
 refine WC_skip (WQ_code (WC_seq (WC_region ?_)))
 refine WL_do rfl rfl rfl (D_buildSlice rfl si151 rfl rfl rfl) ?_
 rintro _ _ ⟨b1, rfl, rfl⟩
 refine WLa rfl ?_
 refine WL_do rfl rfl rfl (D_append rfl si151 rfl ((⟨by simp, by simp, by simp, by simp, fun h => by cases h⟩ : Own (some b1) 0 0 3 [] [])) (plY) rfl (mmY) ((fun j v hj => by rw [Nat.zero_add, List.getElem?_append_left (List.getElem?_eq_some_iff.1 hj).1]; exact hj : At (S.flatMap encSeat ++ tl) 0 (S.flatMap encSeat))) (fm_length encSeat3 S) (fm_all (fun _ => rfl) S) (by omega) (by omega)) ?_
 rintro _ _ ⟨ob2, cap2, tl2, rfl, own2, rfl⟩
 obtain ⟨b9, rfl⟩ := own2.some_of (by omega)
 rw [show 0 + S.length = S.length from by omega, List.nil_append]
 refine WLa rfl (WL_nil (WQ_code (WC_ret ?_)))
 refine WQ_ret rfl rfl (.cons (.tmp rfl) .nil) rfl (by
   exact ⟨b9, cap2, tl2, rfl, rfl⟩) (pqY)
theorem pk_copy (N : Nat) (s : PS) (l : PkM) (hl : PkIs N s l) : Spec Tryz.prog 82 [ptrQ l.p] (pkH l) (fun r H' => ∃ l2 : PkM, r = ptrQ l2.p ∧ H' = pkH l2 ++ pkH l ∧ PkIs N s l2) := by
 have htl := hl.tk.len
 have hsl := hl.ln
 refine Spec.of (E := [(0, ptrQ l.p)]) Tryz.func82 rfl (by kernel_rfl) Tryz.ntmps82 rfl rfl (fun w => ?_)
 refine WC_seq (WC_region (WLa rfl (WL_nil (WQ_code (WC_seq (WC_seq (WC_region (WLa rfl ?_))))))))
 refine WL_do rfl rfl rfl (D_call (pk_zero l) rfl rfl rfl rfl (pqY)) ?_
 rintro _ _ ⟨_, ⟨rfl, rfl⟩, rfl⟩
 refine WL_nil (WQ_code ?_)
 refine WC_F rfl ?_
 refine WC_skip (WQ_code (WC_seq ?_))
 refine WC_drawB _ [(0, .q), (1, .q), (2, .q), (3, .q), (5, .q), (6, .q), (7, .q), (8, .q), (4, .n [10]), (9, .n [10]), (10, .b []), (11, .q), (12, .b []), (13, .q)] followsMixed rfl rfl (by kernel_rfl) .all ?_
 refine WB_val rfl rfl rfl rfl (R_move rfl rfl) ?_
 refine WB_val rfl rfl rfl rfl (R_nilCheck rfl rfl) ?_
 refine WB_val rfl rfl rfl rfl (R_fieldAddr rfl fa154_0 rfl) ?_
 refine WB_val rfl rfl rfl rfl (R_load rfl sc148 rfl (mmY) rfl) ?_
 refine WB_val rfl rfl rfl rfl (R_move rfl rfl) ?_
 refine WB_val rfl rfl rfl rfl (R_nilCheck rfl rfl) ?_
 refine WB_val rfl rfl rfl rfl (R_fieldAddr rfl fa154_1 rfl) ?_
 refine WB_val rfl rfl rfl rfl (R_load rfl sc151 rfl (mmY) rfl) ?_
 refine WB_do rfl rfl rfl rfl (.cons rfl rfl (B_makeMap rfl) .nil) (fun _ => D_call (tk_copy l.t s.sm s.qm hl.tk) rfl rfl rfl rfl (pqY)) ?_
 rintro _ _ ⟨_, ⟨t', rfl, rfl, htn', ht'⟩, rfl⟩
 refine ⟨⟨_, pqY⟩, ?_⟩
 refine WB_do rfl rfl rfl rfl (.cons rfl rfl (B_makeMap rfl) .nil) (fun _ => D_call (cseat_ok l.bs l.cs l.ts l.seats (by omega)) rfl rfl rfl rfl (pqY)) ?_
 rintro _ _ ⟨_, ⟨bs2, cs2, ts2, rfl, rfl⟩, rfl⟩
 refine ⟨⟨_, pqY⟩, ?_⟩
 refine WB_birth rfl rfl rfl rfl .nil (B_makeMap rfl) (fun b1 => ?_)
 refine WB_val rfl rfl rfl rfl (R_build rfl zv154 pl154 rfl rfl) ?_
 refine WB_birth rfl rfl rfl rfl .nil (B_box (cs := [_, _, _]) rfl rfl rfl) (fun b2 => ?_)
 refine WB_val rfl rfl rfl rfl (R_assign rfl rfl) ?_
 refine WB_nil (WQ_code (WC_seq (WC_seq (WC_region (WLa rfl (WLa rfl ?_))))))
 refine WL_val rfl rfl rfl (R_fieldAddr rfl fa154_2 rfl) ?_
 refine WL_val rfl rfl rfl (R_load rfl sc152 rfl (mmY) rfl) ?_
 refine WL_do rfl rfl rfl (D_rangeMap rfl Tryz.underlying152 rfl (mmY)) ?_
 rintro _ _ ⟨bi, rfl, rfl⟩
 refine WL_nil (WQ_code (WC_block ?_))
 refine WC_loopF (G := CpW) [4, 5, 26, 27, 28, 29, 30, 31, 32, 33, 34, 35, 36, 37] (fun y => Cp l y.seen y.QL ∧ Mk ekS evP y.mes y.mc y.QL) (fun y => []) (fun y => ⟨some bi, .mapIter (some l.mb) l.mc y.seen l.mc⟩ :: ⟨some b1, .map y.mes y.mc⟩ :: qsH y.QL) (fun y => l.QL.length - y.QL.length) (⟨#[], #[], 0, []⟩) (⟨Cp.new l, Mk.empty⟩) leZ (pqY) ?_
 rintro y ⟨hcp, hM⟩
 refine WC_seq (WC_region ?_)
 refine WL_do rfl rfl rfl (D_nextMap rfl rfl (plY) (mmY) hl.mpk.born) ?_
 rintro _ _ (⟨rfl, rfl, hall⟩ | ⟨e, he, hns, rfl, rfl⟩)
 ·refine WLa rfl ?_
  refine WL_set (s := 27) (v := .bool false) rfl (by rfl) ?_
  refine WL_nil (WQ_code (WC_seq ?_))
  refine WC_F rfl ?_
  refine WC_exit (WQ_code (WC_seq (WC_region (WLa rfl (WLa rfl (WL_nil (WQ_code (WC_ret ?_))))))))
  refine WQ_ret rfl rfl (.cons (.tmp rfl) .nil) rfl (by
    exact ⟨⟨b2, bs2, b1, t', l.seats, cs2, ts2, y.mes, y.mc, y.QL⟩, rfl, rfl, hcp.done hl hall hM ht' htn' _ _ _ _ _⟩) (pqY)
 ·refine WLa rfl ?_
  refine WL_set (s := 27) (v := .bool true) rfl (by rfl) ?_
  refine WL_nil (WQ_code (WC_seq ?_))
  refine WC_T rfl ?_
  refine WC_skip (WQ_code (WC_block (WC_seq (WC_region ?_))))
  obtain ⟨⟨k, q⟩, hx, hek, hev⟩ := hl.mpk.back he
  dsimp only at hek hev
  have hkno := hcp.fresh he hns hek
  refine WL_val rfl rfl rfl (R_entryMap rfl rfl (mmY) (mmY) he hl.mpk.bnd) ?_
  rw [hek, hev]
  refine WLa rfl (WLa rfl ?_)
  refine WL_do rfl rfl rfl (D_alloc rfl zv108) ?_
  rintro _ _ ⟨b3, rfl, rfl⟩
  refine WL_do0 rfl rfl (D_store (vs := [_, _]) rfl Tryz.sizeOf108 rfl rfl rfl rfl rfl (plY) (Nat.le_of_ble_eq_true rfl)) ?_
  rintro _ _ rfl
  refine WLa rfl (WL_nil (WQ_code ?_))
  refine WC_drawR [⟨some b1, _⟩] [(0, true), (1, true), (2, true), (3, true), (4, true), (5, true), (6, false), (7, false)] followsMixed rfl rfl (by kernel_rfl) (pqY) ?_
  refine WMa rfl (WMa rfl ?_)
  refine WM_val rfl rfl rfl rfl (R_fieldAddr rfl fa154_2 rfl) ?_
  refine WM_val rfl rfl rfl rfl (R_load rfl sc152 rfl (mmY) rfl) ?_
  refine WM_val rfl rfl rfl rfl (R_loadA (vs := [_, _]) rfl ag108 rfl (mmY) rfl (atZ)) ?_
  refine WMa rfl ?_
  refine WM_do rfl rfl rfl rfl (D_call (qcopy_in l.QL (k, q) hx) rfl rfl rfl rfl (pqY)) ?_
  rintro _ _ ⟨_, ⟨q', rfl, hq1, hq2, hq3, rfl⟩, rfl⟩
  refine ⟨⟨_, pqY⟩, ?_⟩
  refine WM_do0 rfl rfl rfl (D_mapAddK (k := k) (v := q') rfl Tryz.underlying152 spot_key rfl rfl rfl (plY) hM hkno) ?_
  rintro _ _ ⟨mes', hM', rfl⟩
  refine ⟨⟨_, pqY⟩, ?_⟩
  have hcp' := hcp.next hl he hek hx hq1 hq2 hq3
  have hlen' := hcp'.len hM'.nodup
  rw [List.length_cons] at hlen'
  refine WM_nil ?_
  refine WQ_nextF (gg := y) (⟨y.seen.push e.born, mes', y.mc + 1, (k, q') :: y.QL⟩) (⟨hcp', hM'⟩) (by dsimp only; rw [List.length_cons]; omega) leZ (psZ) rfl (pqY)
end Go.Proofs.YtbkdebnkoidicaaGreat
end
section
set_option linter.unusedVariables false
set_option maxRecDepth 20000
namespace Go.Proofs.YtbkdebnkoidicaaGreat
structure El where
 key : Nat
 value : Int
 seq : Nat
 pos : Int
abbrev encEl (x : El) : List Value := [.int .u64 (x.key : Int), .int .i64 x.value, .int .u64 (x.seq : Int), .int .i64 x.pos]
theorem encEl4 (x : El) : (encEl x).length = 4 := rfl
abbrev encN (x : Nat) : List Value := [.int .i64 (x : Int)]
theorem encN1 (x : Nat) : (encN x).length = 1 := rfl
abbrev ivn (l : List Nat) : List Value := l.flatMap encN
def rk (E : List El) (h : Nat) : Nat := match E[h]? with
 | some x => x.key * 18446744073709551616 + x.seq
 | none => 0
theorem rk_of {E : List El} {h : Nat} {x : El} (hx : E[h]? = some x) : rk E h = x.key * 18446744073709551616 + x.seq := by rw [rk, hx]
def gt0 (l : List Nat) (i : Nat) : Nat := (l[i]?).getD 0
theorem gt0_of {l : List Nat} {i h : Nat} (hx : l[i]? = some h) : gt0 l i = h := by rw [gt0, hx]; rfl
abbrev rkl (E : List El) (l : List Nat) (i : Nat) : Nat := rk E (gt0 l i)
def HOk (F : Nat → Nat) (n : Nat) : Prop := ∀ j, 0 < j → j < n → F ((j - 1) / 4) ≤ F j
def HGp (F : Nat → Nat) (n i : Nat) : Prop := 0 < i → ∀ c, c < n → 0 < c → (c - 1) / 4 = i → F ((i - 1) / 4) ≤ F c
structure HFix (F : Nat → Nat) (n i : Nat) : Prop where
 e : ∀ j, 0 < j → j < n → j ≠ i → (j - 1) / 4 ≠ i → F ((j - 1) / 4) ≤ F j
 gp : HGp F n i
structure HUp (F : Nat → Nat) (n i : Nat) : Prop where
 e : ∀ j, 0 < j → j < n → j ≠ i → F ((j - 1) / 4) ≤ F j
 gp : HGp F n i
structure HDown (F : Nat → Nat) (n i : Nat) : Prop where
 e : ∀ j, 0 < j → j < n → (j - 1) / 4 ≠ i → F ((j - 1) / 4) ≤ F j
 gp : HGp F n i
structure Swapped (F F' : Nat → Nat) (a b : Nat) : Prop where
 fa : F' a = F b
 fb : F' b = F a
 o : ∀ j, j ≠ a → j ≠ b → F' j = F j
theorem HUp.fix {F : Nat → Nat} {n i : Nat} (h : HUp F n i) : HFix F n i := ⟨fun j h1 h2 h3 _ => h.e j h1 h2 h3, h.gp⟩
theorem HOk.down {F : Nat → Nat} {n : Nat} (h : HOk F n) (i : Nat) (hi : i < n) : HDown F n i :=
 ⟨fun j h1 h2 _ => h j h1 h2, fun h0 c h1 h2 h3 => by
  have a := h i h0 hi
  have b := h c h2 h1
  rw [h3] at b; omega⟩
theorem up_step {F F' : Nat → Nat} {n i p : Nat} (h : HFix F n i) (hi : 0 < i) (hin : i < n) (hp : p = (i - 1) / 4) (hlt : F i < F p) (hs : Swapped F F' i p) : HUp F' n p := by
 have hpi : p < i := by omega
 have hpp : 0 < p → F ((p - 1) / 4) ≤ F p := fun h0 => h.e p h0 (by omega) (by omega) (by omega)
 constructor
 ·intro j h1 h2 h3
  by_cases hj : j = i
  ·subst hj
   rw [← hp, hs.fb, hs.fa]; omega
  ·rw [hs.o j hj h3]
   by_cases hq : (j - 1) / 4 = i
   ·rw [hq, hs.fa]
    have := h.gp hi j h2 h1 hq
    rw [← hp] at this; exact this
   ·by_cases hq2 : (j - 1) / 4 = p
    ·rw [hq2, hs.fb]
     have := h.e j h1 h2 hj hq
     rw [hq2] at this; omega
    ·rw [hs.o _ hq hq2]; exact h.e j h1 h2 hj hq
 ·intro h0 c h1 h2 h3
  have e1 : F' ((p - 1) / 4) = F ((p - 1) / 4) := hs.o _ (by omega) (by omega)
  have e2 := hpp h0
  rw [e1]
  by_cases hc : c = i
  ·subst hc; rw [hs.fa]; exact e2
  ·rw [hs.o c hc (by omega)]
   have := h.e c h2 h1 hc (by omega)
   rw [h3] at this; omega
theorem up_done {F : Nat → Nat} {n i i0 : Nat} (h : HFix F n i) (h0 : i = i0 ∨ HUp F n i) (hi0 : i0 < n) (hx : i = 0 ∨ F ((i - 1) / 4) ≤ F i) : HDown F n i0 := by
 rcases h0 with rfl | h0
 ·exact ⟨fun j h1 h2 h3 => by
   by_cases hj : j = i
   ·subst hj; rcases hx with hx | hx
    ·omega
    ·exact hx
   ·exact h.e j h1 h2 hj h3, h.gp⟩
 ·have hok : HOk F n := fun j h1 h2 => by
   by_cases hj : j = i
   ·subst hj; rcases hx with hx | hx
    ·omega
    ·exact hx
   ·exact h0.e j h1 h2 hj
  exact hok.down i0 hi0
theorem down_step {F F' : Nat → Nat} {n i m : Nat} (h : HDown F n i) (hm : m < n) (hc : 0 < m) (hcm : (m - 1) / 4 = i) (hlt : F m ≤ F i) (hmin : ∀ c, c < n → 0 < c → (c - 1) / 4 = i → F m ≤ F c) (hs : Swapped F F' i m) : HDown F' n m := by
 constructor
 ·intro j h1 h2 h3
  by_cases hj : j = m
  ·subst hj; rw [hcm, hs.fa, hs.fb]; omega
  ·by_cases hji : j = i
   ·subst hji
    rw [hs.fa, hs.o _ (by omega) h3]
    exact h.gp h1 m hm hc hcm
   ·rw [hs.o j hji hj]
    by_cases hq : (j - 1) / 4 = i
    ·rw [hq, hs.fa]; exact hmin j h2 h1 hq
    ·rw [hs.o _ hq h3]; exact h.e j h1 h2 hq
 ·intro h0 c h1 h2 h3
  rw [hcm, hs.fa, hs.o c (by omega) (by omega)]
  have := h.e c h2 h1 (by omega)
  rw [h3] at this; exact this
theorem down_done {F : Nat → Nat} {n i : Nat} (h : HDown F n i) (hmin : ∀ c, c < n → 0 < c → (c - 1) / 4 = i → F i ≤ F c) : HOk F n := fun j h1 h2 => by
 by_cases hq : (j - 1) / 4 = i
 ·rw [hq]; exact hmin j h2 h1 hq
 ·exact h.e j h1 h2 hq
theorem HOk.top {F : Nat → Nat} {n : Nat} (h : HOk F n) : ∀ j, j < n → F 0 ≤ F j := fun j => by
 induction j using Nat.strongRecOn with
 | ind j ih =>
  intro hj
  by_cases h0 : j = 0
  ·subst h0; exact Nat.le_refl _
  ·have := ih ((j - 1) / 4) (by omega) (by omega)
   have := h j (by omega) hj
   omega
theorem cut_fix {F F' : Nat → Nat} {n i : Nat} (h : HOk F (n + 1)) (hi : i < n) (hs : Swapped F F' i n) : HFix F' n i :=
 ⟨fun j h1 h2 h3 h4 => by rw [hs.o j h3 (by omega), hs.o _ h4 (by omega)]; exact h j h1 (by omega),
  fun h0 c h1 h2 h3 => by
  rw [hs.o c (by omega) (by omega), hs.o _ (by omega) (by omega)]
  have a := h i h0 (by omega)
  have b := h c h2 (by omega)
  rw [h3] at b; omega⟩
theorem add_fix {F F' : Nat → Nat} {n : Nat} (h : HOk F n) (hs : ∀ j, j < n → F' j = F j) : HFix F' (n + 1) n :=
 ⟨fun j h1 h2 h3 _ => by rw [hs j (by omega), hs _ (by omega)]; exact h j h1 (by omega), fun h0 c h1 h2 h3 => by omega⟩
theorem add_ok {F : Nat → Nat} {n : Nat} (h : HDown F (n + 1) n) : HOk F (n + 1) := down_done h (fun c h1 h2 h3 => by omega)
theorem HOk.cong {F F' : Nat → Nat} {n : Nat} (h : HOk F n) (e : ∀ j, j < n → F' j = F j) : HOk F' n := fun j h1 h2 => by rw [e j h2, e _ (by omega)]; exact h j h1 h2
theorem HFix.cong {F F' : Nat → Nat} {n i : Nat} (h : HFix F n i) (hi : i < n) (e : ∀ j, j < n → F' j = F j) : HFix F' n i :=
 ⟨fun j h1 h2 h3 h4 => by rw [e j h2, e _ (by omega)]; exact h.e j h1 h2 h3 h4, fun h0 c h1 h2 h3 => by rw [e c h1, e _ (by omega)]; exact h.gp h0 c h1 h2 h3⟩
def setp (E : List El) (h : Nat) (i : Int) : List El := E.modify h (fun x => { x with pos := i })
theorem setp_of {E : List El} {h : Nat} {x : El} (hx : E[h]? = some x) (i : Int) : E.set h { x with pos := i } = setp E h i := by
 apply List.ext_getElem?
 intro k
 rw [setp, List.getElem?_modify, List.getElem?_set]
 by_cases e : h = k
 ·subst e
  rw [if_pos rfl, if_pos (List.getElem?_eq_some_iff.1 hx).1, hx]
  simp
 ·simp [e]
theorem setp_len (E : List El) (h : Nat) (i : Int) : (setp E h i).length = E.length := by rw [setp, List.length_modify]
theorem setp_get {E : List El} {h k : Nat} {x : El} {i : Int} (hx : E[k]? = some x) : (setp E h i)[k]? = some (if h = k then { x with pos := i } else x) := by
 rw [setp, List.getElem?_modify, hx]
 by_cases e : h = k <;> simp [e]
theorem setp_back {E : List El} {h k : Nat} {x : El} {i : Int} (hx : (setp E h i)[k]? = some x) : ∃ y, E[k]? = some y ∧ x = (if h = k then { y with pos := i } else y) := by
 cases hy : E[k]? with
 | none => rw [setp, List.getElem?_modify, hy] at hx; by_cases e : h = k <;> simp [e] at hx
 | some y => rw [setp_get hy] at hx; exact ⟨y, rfl, (Option.some.inj hx).symm⟩
def sw (l : List Nat) (a b : Nat) : List Nat := (l.set a (gt0 l b)).set b (gt0 l a)
theorem sw_len (l : List Nat) (a b : Nat) : (sw l a b).length = l.length := by rw [sw, List.length_set, List.length_set]
theorem sw_get {l : List Nat} {a b : Nat} (ha : a < l.length) (hb : b < l.length) (i : Nat) : (sw l a b)[i]? = if i = b then some (gt0 l a) else if i = a then some (gt0 l b) else l[i]? := by
 rw [sw, List.getElem?_set, List.getElem?_set, List.length_set]
 by_cases e1 : b = i
 ·subst e1; simp [hb]
 ·by_cases e2 : a = i
  ·subst e2; simp [e1, Ne.symm e1, ha]
  ·simp [e1, e2, Ne.symm e1, Ne.symm e2]
theorem sw_swapped (F : Nat → Nat) {l : List Nat} {a b : Nat} (ha : a < l.length) (hb : b < l.length) : Swapped (fun i => F (gt0 l i)) (fun i => F (gt0 (sw l a b) i)) a b := by
 refine ⟨?_, ?_, ?_⟩
 ·rw [show gt0 (sw l a b) a = gt0 l b from by
   rw [gt0, sw_get ha hb]
   by_cases e : a = b
   ·subst e; simp
   ·simp [e]]
 ·rw [gt0, sw_get ha hb]; simp
 ·intro j h1 h2; rw [gt0, sw_get ha hb]; simp [h1, h2, gt0]
theorem set_cnt {l : List Nat} {i x : Nat} (h : l[i]? = some x) (y z : Nat) : (l.set i y).count z + (if x = z then 1 else 0) = l.count z + (if y = z then 1 else 0) := by
 induction l generalizing i with
 | nil => simp at h
 | cons w l ih =>
  cases i with
  | zero =>
   simp only [List.getElem?_cons_zero, Option.some.injEq] at h
   subst h
   simp only [List.set_cons_zero, List.count_cons, beq_iff_eq]; omega
  | succ i =>
   have := ih (i := i) (by simpa using h)
   simp only [List.set_cons_succ, List.count_cons, beq_iff_eq]; omega
theorem sw_perm {l : List Nat} {a b : Nat} (ha : a < l.length) (hb : b < l.length) : (sw l a b).Perm l := by
 rw [List.perm_iff_count]
 intro z
 have h1 := set_cnt (l := l) (i := a) (x := gt0 l a) (by rw [gt0, List.getElem?_eq_getElem ha]; rfl) (gt0 l b) z
 have h2 := set_cnt (l := l.set a (gt0 l b)) (i := b) (x := gt0 l b) (by
  rw [List.getElem?_set]
  by_cases e : a = b
  ·subst e; simp [ha]
  ·rw [if_neg e, gt0, List.getElem?_eq_getElem hb]; rfl) (gt0 l a) z
 rw [sw]; omega
structure St (E0 E : List El) (l : List Nat) : Prop where
 len : E.length = E0.length
 same : ∀ (h : Nat) (x0 : El), E0[h]? = some x0 → ∃ x, E[h]? = some x ∧ x.key = x0.key ∧ x.value = x0.value ∧ x.seq = x0.seq ∧ (h ∉ l → x.pos = x0.pos)
 pos : ∀ (i h : Nat), l[i]? = some h → ∃ x, E[h]? = some x ∧ x.pos = (i : Int)
 sq : ∀ (h : Nat) (x : El), E[h]? = some x → x.seq < 18446744073709551616
theorem St.nodup {E0 E : List El} {l : List Nat} (s : St E0 E l) : l.Nodup := by
 rw [List.Nodup, List.pairwise_iff_getElem]
 intro i j hi hj hij e
 obtain ⟨x, hx, px⟩ := s.pos j _ (List.getElem?_eq_getElem hj)
 obtain ⟨y, hy, py⟩ := s.pos i _ (List.getElem?_eq_getElem hi)
 rw [e] at hy
 rw [hx] at hy
 have := Option.some.inj hy
 subst this
 omega
theorem St.rk {E0 E : List El} {l : List Nat} (s : St E0 E l) (h : Nat) : rk E h = rk E0 h := by
 cases hx : E0[h]? with
 | none =>
  have : E0.length ≤ h := List.getElem?_eq_none_iff.1 hx
  have hy : E[h]? = none := List.getElem?_eq_none_iff.2 (by rw [s.len]; exact this)
  rw [Go.Proofs.YtbkdebnkoidicaaGreat.rk, Go.Proofs.YtbkdebnkoidicaaGreat.rk, hx, hy]
 | some x0 =>
  obtain ⟨x, h1, h2, _, h4, _⟩ := s.same h x0 hx
  rw [rk_of h1, rk_of hx, h2, h4]
theorem St.get {E0 E : List El} {l : List Nat} (s : St E0 E l) {i : Nat} (hi : i < l.length) : ∃ h x, l[i]? = some h ∧ gt0 l i = h ∧ E[h]? = some x ∧ x.pos = (i : Int) := by
 obtain ⟨h, hh⟩ : ∃ h, l[i]? = some h := ⟨_, List.getElem?_eq_getElem hi⟩
 obtain ⟨x, hx, px⟩ := s.pos i h hh
 exact ⟨h, x, hh, gt0_of hh, hx, px⟩
theorem St.self {E0 E : List El} {l l2 : List Nat} (s : St E0 E l) (h : ∀ (i h : Nat), l2[i]? = some h → l[i]? = some h) : St E E l2 :=
 ⟨rfl, fun h x hx => ⟨x, hx, rfl, rfl, rfl, fun _ => rfl⟩, fun i k hk => s.pos i k (h i k hk), s.sq⟩
theorem sw_mem {l : List Nat} {a b : Nat} (ha : a < l.length) (hb : b < l.length) (h : Nat) : h ∈ sw l a b ↔ h ∈ l := (sw_perm ha hb).mem_iff
theorem st_swap {E0 E : List El} {l : List Nat} {a b : Nat} (s : St E0 E l) (ha : a < l.length) (hb : b < l.length) : St E0 (setp (setp E (gt0 l b) a) (gt0 l a) b) (sw l a b) := by
 obtain ⟨x, ex, hx, gx, hex, px⟩ := s.get ha
 obtain ⟨y, ey, hy, gy, hey, py⟩ := s.get hb
 rw [gx, gy]
 have hne : a ≠ b → x ≠ y := fun e1 e2 => by
  subst e2
  rw [hex] at hey
  have := Option.some.inj hey
  subst this
  omega
 refine ⟨by rw [setp_len, setp_len, s.len], fun h x0 h0 => ?_, fun i h hh => ?_, fun h z hz => ?_⟩
 ·obtain ⟨z, h1, h2, h3, h4, h5⟩ := s.same h x0 h0
  refine ⟨_, setp_get (setp_get h1), ?_⟩
  by_cases e1 : x = h
  ·subst e1
   rw [if_pos rfl]
   by_cases e2 : y = x
   ·rw [if_pos e2]; exact ⟨h2, h3, h4, fun h9 => absurd ((sw_mem ha hb _).2 (List.mem_of_getElem? hx)) h9⟩
   ·rw [if_neg e2]; exact ⟨h2, h3, h4, fun h9 => absurd ((sw_mem ha hb _).2 (List.mem_of_getElem? hx)) h9⟩
  ·rw [if_neg e1]
   by_cases e2 : y = h
   ·subst e2
    rw [if_pos rfl]; exact ⟨h2, h3, h4, fun h9 => absurd ((sw_mem ha hb _).2 (List.mem_of_getElem? hy)) h9⟩
   ·rw [if_neg e2]; exact ⟨h2, h3, h4, fun h9 => h5 (fun h8 => h9 ((sw_mem ha hb _).2 h8))⟩
 ·rw [sw_get ha hb, gx, gy] at hh
  by_cases e1 : i = b
  ·rw [if_pos e1] at hh
   have := Option.some.inj hh
   subst this
   exact ⟨_, setp_get (setp_get hex), by rw [if_pos rfl, e1]⟩
  ·rw [if_neg e1] at hh
   by_cases e2 : i = a
   ·rw [if_pos e2] at hh
    have := Option.some.inj hh
    subst this
    exact ⟨_, setp_get (setp_get hey), by rw [if_neg (hne (by omega)), if_pos rfl, e2]⟩
   ·rw [if_neg e2] at hh
    obtain ⟨z, hz, pz⟩ := s.pos i h hh
    refine ⟨_, setp_get (setp_get hz), ?_⟩
    have n1 : x ≠ h := fun e => by
     subst e; rw [hex] at hz
     have := Option.some.inj hz
     subst this; omega
    have n2 : y ≠ h := fun e => by
     subst e; rw [hey] at hz
     have := Option.some.inj hz
     subst this; omega
    rw [if_neg n1, if_neg n2]; exact pz
 ·obtain ⟨u, hu, rfl⟩ := setp_back hz
  obtain ⟨v, hv, rfl⟩ := setp_back hu
  have := s.sq h v hv
  by_cases e1 : x = h <;> by_cases e2 : y = h <;> simp [e1, e2] <;> exact this
theorem st_add {E : List El} {l : List Nat} {h : Nat} {x : El} (s : St E E l) (hh : E[h]? = some x) (hn : h ∉ l) : St E (setp E h (l.length : Int)) (l ++ [h]) := by
 refine ⟨setp_len .., fun k x0 h0 => ?_, fun i k hk => ?_, fun k z hz => ?_⟩
 ·refine ⟨_, setp_get h0, ?_⟩
  by_cases e : h = k
  ·subst e; rw [if_pos rfl]; exact ⟨rfl, rfl, rfl, fun h9 => absurd (List.mem_append_right _ (List.mem_singleton.2 rfl)) h9⟩
  ·rw [if_neg e]; exact ⟨rfl, rfl, rfl, fun _ => rfl⟩
 ·by_cases hi : i < l.length
  ·rw [List.getElem?_append_left hi] at hk
   obtain ⟨z, hz, pz⟩ := s.pos i k hk
   refine ⟨_, setp_get hz, ?_⟩
   rw [if_neg (fun e => hn (by rw [e]; exact List.mem_of_getElem? hk))]; exact pz
  ·have hi2 := (List.getElem?_eq_some_iff.1 hk).1
   rw [List.length_append, List.length_singleton] at hi2
   have e1 : i = l.length := by omega
   subst e1
   rw [List.getElem?_append_right (Nat.le_refl _), Nat.sub_self] at hk
   have := Option.some.inj hk
   subst this
   exact ⟨_, setp_get hh, by rw [if_pos rfl]⟩
 ·obtain ⟨u, hu, rfl⟩ := setp_back hz
  have := s.sq k u hu
  by_cases e : h = k <;> simp [e] <;> exact this
end Go.Proofs.YtbkdebnkoidicaaGreat
end
section
set_option linter.unusedVariables false
set_option maxRecDepth 20000
namespace Go.Proofs.YtbkdebnkoidicaaGreat
structure WE where
 h : Nat
 v : Int
 k : Nat
 s : Nat
abbrev hds (W : List WE) : List Nat := W.map (fun w => w.h)
structure Hp (W : List WE) (E : List El) (l : List Nat) (n : Nat) : Prop where
 st : St E E l
 ord : HOk (rkl E l) l.length
 perm : l.Perm (hds W)
 el : ∀ w ∈ W, ∃ x, E[w.h]? = some x ∧ x.key = w.k ∧ x.value = w.v ∧ x.seq = w.s
 off : ∀ (h : Nat) (x : El), E[h]? = some x → h ∉ l → x.pos = -1
 inc : W.Pairwise (fun a b => a.s < b.s)
 le : ∀ w ∈ W, w.s ≤ n
 nb : n < 9000000000000000000
 cap : l.length ≤ 1024
 ecap : E.length ≤ 1024
theorem hp_new : Hp [] [] [] 0 where
 st := ⟨rfl, fun h x hx => (by cases hx), fun i h hh => (by cases hh), fun h x hx => (by cases hx)⟩
 ord := fun j h1 h2 => absurd h2 (Nat.not_lt_zero j)
 perm := .refl _
 el := fun w hw => by cases hw
 off := fun h x hx => by cases hx
 inc := .nil
 le := fun w hw => by cases hw
 nb := by decide
 cap := by decide
 ecap := by decide
variable {W : List WE} {E : List El} {l : List Nat} {n : Nat}
theorem Hp.mem (hp : Hp W E l n) (h : Nat) : h ∈ l ↔ ∃ w ∈ W, w.h = h := by
 rw [hp.perm.mem_iff, List.mem_map]
theorem Hp.len (hp : Hp W E l n) : l.length = W.length := by rw [hp.perm.length_eq, List.length_map]
theorem Hp.nodup (hp : Hp W E l n) : (hds W).Nodup := hp.perm.nodup_iff.1 hp.st.nodup
theorem Hp.inj (hp : Hp W E l n) {a b : WE} (ha : a ∈ W) (hb : b ∈ W) (h : a.h = b.h) : a = b := by
 have hn := hp.nodup
 rw [List.Nodup, List.pairwise_map, List.pairwise_iff_getElem] at hn
 obtain ⟨i, hi, rfl⟩ := List.mem_iff_getElem.1 ha
 obtain ⟨j, hj, rfl⟩ := List.mem_iff_getElem.1 hb
 rcases Nat.lt_trichotomy i j with e | e | e
 ·exact absurd h (hn i j hi hj e)
 ·subst e; rfl
 ·exact absurd h.symm (hn j i hj hi e)
theorem Hp.has (hp : Hp W E l n) {h : Nat} {x : El} (hx : E[h]? = some x) : 0 ≤ x.pos ↔ h ∈ l := by
 constructor
 ·intro h0
  by_cases hm : h ∈ l
  ·exact hm
  ·have := hp.off h x hx hm; omega
 ·intro hm
  obtain ⟨i, hi⟩ := List.getElem?_of_mem hm
  obtain ⟨y, hy, py⟩ := hp.st.pos i h hi
  rw [hx] at hy
  have := Option.some.inj hy
  subst this
  omega
theorem Hp.at (hp : Hp W E l n) {h : Nat} {x : El} (hx : E[h]? = some x) (hm : h ∈ l) : ∃ i : Nat, x.pos = (i : Int) ∧ l[i]? = some h ∧ i < l.length := by
 obtain ⟨i, hi⟩ := List.getElem?_of_mem hm
 obtain ⟨y, hy, py⟩ := hp.st.pos i h hi
 rw [hx] at hy
 have := Option.some.inj hy
 subst this
 exact ⟨i, py, hi, (List.getElem?_eq_some_iff.1 hi).1⟩
theorem Hp.in (hp : Hp W E l n) {h : Nat} (hm : h ∈ l) : ∃ w x, w ∈ W ∧ w.h = h ∧ E[h]? = some x ∧ x.key = w.k ∧ x.value = w.v ∧ x.seq = w.s := by
 obtain ⟨w, hw, rfl⟩ := (hp.mem h).1 hm
 obtain ⟨x, hx, h1, h2, h3⟩ := hp.el w hw
 exact ⟨w, x, hw, rfl, hx, h1, h2, h3⟩
def wfind (W : List WE) (h : Nat) : Option WE := W.find? (fun w => decide (w.h = h))
theorem Hp.find (hp : Hp W E l n) {w : WE} (hw : w ∈ W) : wfind W w.h = some w := by
 unfold wfind
 cases hf : W.find? (fun u => decide (u.h = w.h)) with
 | none => 
  have := List.find?_eq_none.1 hf w hw
  simp at this
 | some u =>
  have h1 := List.mem_of_find?_eq_some hf
  have h2 := List.find?_some hf
  rw [hp.inj h1 hw (of_decide_eq_true h2)]
theorem Hp.top (hp : Hp W E l n) {h : Nat} (h0 : l[0]? = some h) : ∃ w ∈ W, w.h = h ∧ ∀ u ∈ W, w.k < u.k ∨ (w.k = u.k ∧ w.s ≤ u.s) := by
 obtain ⟨w, x, hw, hwh, hx, hk, hv, hs⟩ := hp.in (List.mem_of_getElem? h0)
 refine ⟨w, hw, hwh, fun u hu => ?_⟩
 obtain ⟨y, hy, yk, yv, ys⟩ := hp.el u hu
 obtain ⟨j, hj⟩ := List.getElem?_of_mem ((hp.mem u.h).2 ⟨u, hu, rfl⟩)
 have := hp.ord.top j (List.getElem?_eq_some_iff.1 hj).1
 rw [rkl, rkl, gt0_of h0, gt0_of hj, rk_of hx, rk_of hy] at this
 have b1 := hp.st.sq _ _ hx
 have b2 := hp.st.sq _ _ hy
 omega
def fr (E : List El) : Nat := E.findIdx (fun x => decide (x.pos < 0))
theorem fr_le : fr E ≤ E.length := List.findIdx_le_length
theorem Hp.fr_out (hp : Hp W E l n) : fr E ∉ l := by
 intro hm
 obtain ⟨i, hi⟩ := List.getElem?_of_mem hm
 obtain ⟨x, hx, px⟩ := hp.st.pos i _ hi
 obtain ⟨hlt, rfl⟩ := List.getElem?_eq_some_iff.1 hx
 have := List.findIdx_getElem (w := hlt)
 simp only [decide_eq_true_eq] at this
 unfold fr at px
 omega
theorem Hp.below (hp : Hp W E l n) {h : Nat} (hh : h < fr E) : h ∈ l := by
 have h1 := List.not_of_lt_findIdx hh
 have hlt : h < E.length := Nat.lt_of_lt_of_le hh fr_le
 exact (hp.has (List.getElem?_eq_getElem hlt)).1 (by simp at h1; omega)
theorem Hp.below2 (hp : Hp W E l n) {h : Nat} (hh : E.length ≤ h) : h ∉ l := by
 intro hm
 obtain ⟨i, hi⟩ := List.getElem?_of_mem hm
 obtain ⟨x, hx, px⟩ := hp.st.pos i _ hi
 have := (List.getElem?_eq_some_iff.1 hx).1
 omega
theorem Hp.push0 (hp : Hp W E l n) (k : Nat) (v : Int) {E1 : List El} (hE1 : E1 = E ∨ (fr E = E.length ∧ E1 = E ++ [⟨0, 0, 0, 0⟩])) (hlt : fr E < E1.length) (h1024 : l.length < 1024) (hb : n + 1 < 9000000000000000000) :
  St (E1.set (fr E) ⟨k, v, n + 1, 0⟩) (E1.set (fr E) ⟨k, v, n + 1, 0⟩) l ∧ HOk (rkl (E1.set (fr E) ⟨k, v, n + 1, 0⟩) l) l.length ∧ (E1.set (fr E) ⟨k, v, n + 1, 0⟩)[fr E]? = some ⟨k, v, n + 1, 0⟩ ∧
  (∀ h x, h ≠ fr E → (E1.set (fr E) ⟨k, v, n + 1, 0⟩)[h]? = some x → E[h]? = some x) ∧ (∀ h x, h ≠ fr E → E[h]? = some x → (E1.set (fr E) ⟨k, v, n + 1, 0⟩)[h]? = some x) := by
 have hget : ∀ (h : Nat), h ≠ fr E → (E1.set (fr E) ⟨k, v, n + 1, 0⟩)[h]? = E[h]? := fun h hne => by
  rw [List.getElem?_set, if_neg (Ne.symm hne)]
  rcases hE1 with rfl | ⟨hf, rfl⟩
  ·rfl
  ·by_cases hl : h < E.length
   ·rw [List.getElem?_append_left hl]
   ·rw [List.getElem?_eq_none_iff.2 (by rw [List.length_append, List.length_singleton]; omega), List.getElem?_eq_none_iff.2 (by omega)]
 have hself : (E1.set (fr E) ⟨k, v, n + 1, 0⟩)[fr E]? = some ⟨k, v, n + 1, 0⟩ := by rw [List.getElem?_set, if_pos rfl, if_pos hlt]
 have hne : ∀ i h, l[i]? = some h → h ≠ fr E := fun i h hi e => hp.fr_out (e ▸ List.mem_of_getElem? hi)
 refine ⟨⟨rfl, fun h x hx => ⟨x, hx, rfl, rfl, rfl, fun _ => rfl⟩, fun i h hi => ?_, fun h x hx => ?_⟩, ?_, hself, fun h x hn hx => by rw [hget h hn] at hx; exact hx, fun h x hn hx => by rw [hget h hn]; exact hx⟩
 ·rw [hget h (hne i h hi)]; exact hp.st.pos i h hi
 ·by_cases e : h = fr E
  ·subst e
   rw [hself] at hx
   have := Option.some.inj hx
   subst this
   dsimp only; omega
  ·rw [hget h e] at hx; exact hp.st.sq h x hx
 ·refine hp.ord.cong fun j hj => ?_
  obtain ⟨h, x, hx, gx, hex, _⟩ := hp.st.get hj
  rw [rkl, rkl, gx, rk, rk, hget h (hne j h hx)]
theorem Hp.push (hp : Hp W E l n) (k : Nat) (v : Int) {E1 E2 : List El} {l2 : List Nat} (hE1 : E1 = E ∨ (fr E = E.length ∧ E1 = E ++ [⟨0, 0, 0, 0⟩])) (hlt : fr E < E1.length) (h1024 : l.length < 1024) (hb : n + 1 < 9000000000000000000)
  (s : St (E1.set (fr E) ⟨k, v, n + 1, 0⟩) E2 l2) (hl2 : l2.Perm (l ++ [fr E])) (ho : HOk (rkl E2 l2) l2.length) : Hp (W ++ [⟨fr E, v, k, n + 1⟩]) E2 l2 (n + 1) := by
 obtain ⟨h1, _, h3, h4, h5⟩ := hp.push0 k v hE1 hlt h1024 hb
 have hin : fr E ∈ l2 := hl2.mem_iff.2 (List.mem_append_right _ (List.mem_singleton.2 rfl))
 have hlen : E1.length ≤ 1024 := by
  rcases hE1 with rfl | ⟨hf, rfl⟩
  ·exact hp.ecap
  ·have : (List.range E.length).length ≤ l.length := by
    refine List.Nodup.length_le_of_subset List.nodup_range fun h hh => hp.below (by rw [hf]; exact List.mem_range.1 hh)
   rw [List.length_range] at this
   rw [List.length_append, List.length_singleton]; omega
 have hWn : ∀ w ∈ W, w.h ≠ fr E := fun w hw e => hp.fr_out ((hp.mem _).2 ⟨w, hw, e⟩)
 refine ⟨s.self (fun i h hh => hh), ho, ?_, fun w hw => ?_, fun h x hx hn => ?_, ?_, fun w hw => ?_, hb, by rw [hl2.length_eq, List.length_append, List.length_singleton]; omega, by rw [s.len, List.length_set]; exact hlen⟩
 ·refine hl2.trans ?_
  rw [hds, List.map_append]
  exact hp.perm.append_right _
 ·rcases List.mem_append.1 hw with hw | hw
  ·obtain ⟨x, hx, a1, a2, a3⟩ := hp.el w hw
   obtain ⟨y, hy, b1, b2, b3, _⟩ := s.same _ _ (h5 _ _ (hWn w hw) hx)
   exact ⟨y, hy, b1.trans a1, b2.trans a2, b3.trans a3⟩
  ·rw [List.mem_singleton] at hw
   subst hw
   obtain ⟨y, hy, b1, b2, b3, _⟩ := s.same _ _ h3
   exact ⟨y, hy, b1, b2, b3⟩
 ·have hlt2 : h < (E1.set (fr E) ⟨k, v, n + 1, 0⟩).length := by rw [← s.len]; exact (List.getElem?_eq_some_iff.1 hx).1
  obtain ⟨y, hy, b1, b2, b3, b4⟩ := s.same h _ (List.getElem?_eq_getElem hlt2)
  rw [hx] at hy
  have := Option.some.inj hy
  subst this
  have hne : h ≠ fr E := fun e => hn (e ▸ hin)
  rw [b4 hn]
  exact hp.off h _ (h4 h _ hne (List.getElem?_eq_getElem hlt2)) (fun hm => hn (hl2.mem_iff.2 (List.mem_append_left _ hm)))
 ·rw [List.pairwise_append]
  refine ⟨hp.inc, List.pairwise_singleton _ _, fun a ha b hb2 => ?_⟩
  rw [List.mem_singleton] at hb2
  subst hb2
  have := hp.le a ha
  dsimp only; omega
 ·rcases List.mem_append.1 hw with hw | hw
  ·have := hp.le w hw; omega
  ·rw [List.mem_singleton] at hw
   subst hw
   exact Nat.le_refl _
def wremove (W : List WE) (h : Nat) : List WE := W.filter (fun w => decide (w.h ≠ h))
theorem wremove_hds (W : List WE) (h : Nat) : hds (wremove W h) = (hds W).filter (fun g => decide (g ≠ h)) := by
 rw [wremove, hds, hds, List.filter_map]; rfl
theorem Hp.cut0 {E0 E2 : List El} {l3 : List Nat} {h : Nat} (s : St E0 E2 (l3 ++ [h])) : St E2 E2 l3 :=
 s.self fun i k hk => by rw [List.getElem?_append_left (List.getElem?_eq_some_iff.1 hk).1]; exact hk
theorem Hp.remove (hp : Hp W E l n) {h : Nat} (hm : h ∈ l) {E2 E3 : List El} {l3 l4 : List Nat} (s2 : St E E2 (l3 ++ [h])) (hl3 : (l3 ++ [h]).Perm l) (s3 : St E2 E3 l4) (hl4 : l4.Perm l3) (ho : HOk (rkl E3 l4) l4.length) :
  Hp (wremove W h) (setp E3 h (-1)) l4 n := by
 have hn : (l3 ++ [h]).Nodup := s2.nodup
 have hnot : h ∉ l3 := fun hm3 => by
  rw [List.nodup_append] at hn
  exact hn.2.2 h hm3 h (List.mem_singleton.2 rfl) rfl
 have hnot4 : h ∉ l4 := fun h9 => hnot (hl4.mem_iff.1 h9)
 have hl : l4.Perm (l.filter (fun g => decide (g ≠ h))) := by
  refine hl4.trans ?_
  have e := hl3.filter (fun g => decide (g ≠ h))
  rw [List.filter_append] at e
  have e1 : l3.filter (fun g => decide (g ≠ h)) = l3 := List.filter_eq_self.2 fun g hg => decide_eq_true (fun e9 => hnot (e9 ▸ hg))
  have e2 : [h].filter (fun g => decide (g ≠ h)) = [] := by simp
  rw [e1, e2, List.append_nil] at e
  exact e
 have hget : ∀ (g : Nat) (y : El), g ≠ h → (setp E3 h (-1))[g]? = some y → E3[g]? = some y := fun g y hg hy => by
  obtain ⟨z, hz, rfl⟩ := setp_back hy
  rw [if_neg (Ne.symm hg)]; exact hz
 have hget2 : ∀ (g : Nat) (y : El), g ≠ h → E3[g]? = some y → (setp E3 h (-1))[g]? = some y := fun g y hg hy => by
  rw [setp_get hy, if_neg (Ne.symm hg)]
 refine ⟨⟨rfl, fun h x hx => ⟨x, hx, rfl, rfl, rfl, fun _ => rfl⟩, fun i g hg => ?_, fun g y hy => ?_⟩, ?_, ?_, fun w hw => ?_, fun g y hy hng => ?_, ?_, fun w hw => ?_, hp.nb, ?_, ?_⟩
 ·obtain ⟨y, hy, py⟩ := s3.pos i g hg
  exact ⟨y, hget2 g y (fun e => hnot4 (e ▸ List.mem_of_getElem? hg)) hy, py⟩
 ·obtain ⟨z, hz, rfl⟩ := setp_back hy
  have := s3.sq g z hz
  by_cases e : h = g <;> simp [e] <;> exact this
 ·refine ho.cong fun j hj => ?_
  obtain ⟨g, y, hg, gg, hgy, _⟩ := s3.get hj
  rw [rkl, rkl, gg, rk_of hgy, rk_of (hget2 g y (fun e => hnot4 (e ▸ List.mem_of_getElem? hg)) hgy)]
 ·rw [wremove_hds]; exact hl.trans (hp.perm.filter _)
 ·rw [wremove, List.mem_filter] at hw
  obtain ⟨hw, hne⟩ := hw
  have hne : w.h ≠ h := of_decide_eq_true hne
  obtain ⟨x, hx, a1, a2, a3⟩ := hp.el w hw
  obtain ⟨y, hy, b1, b2, b3, _⟩ := s2.same _ _ hx
  obtain ⟨z, hz, c1, c2, c3, _⟩ := s3.same _ _ hy
  exact ⟨z, hget2 _ _ hne hz, c1.trans (b1.trans a1), c2.trans (b2.trans a2), c3.trans (b3.trans a3)⟩
 ·by_cases e : g = h
  ·subst e
   obtain ⟨z, hz, rfl⟩ := setp_back hy
   rw [if_pos rfl]
  ·have hy3 := hget g y e hy
   have hlt : g < E.length := by
    have := (List.getElem?_eq_some_iff.1 hy3).1
    rw [s3.len, s2.len] at this; exact this
   obtain ⟨z, hz, b1, b2, b3, b4⟩ := s2.same g _ (List.getElem?_eq_getElem hlt)
   obtain ⟨u, hu, c1, c2, c3, c4⟩ := s3.same g z hz
   rw [hy3] at hu
   have := Option.some.inj hu
   subst this
   have h3 : g ∉ l3 ++ [h] := fun h9 => by
    rcases List.mem_append.1 h9 with h9 | h9
    ·exact hng (hl4.mem_iff.2 h9)
    ·exact e (List.mem_singleton.1 h9)
   rw [c4 hng, b4 h3]
   exact hp.off g _ (List.getElem?_eq_getElem hlt) (fun h9 => h3 (hl3.mem_iff.2 h9))
 ·exact hp.inc.filter _
 ·rw [wremove, List.mem_filter] at hw
  exact hp.le w hw.1
 ·have := hl3.length_eq
  rw [List.length_append, List.length_singleton] at this
  have := hp.cap
  rw [hl4.length_eq]; omega
 ·rw [setp_len, s3.len, s2.len]; exact hp.ecap
end Go.Proofs.YtbkdebnkoidicaaGreat
end
section
set_option linter.unusedVariables false
set_option maxRecDepth 20000
set_option maxHeartbeats 2000000
namespace Go.Proofs.YtbkdebnkoidicaaGreat
abbrev ptrH (p : Nat) : Value := .pointer (some ⟨p, 0, none⟩)
abbrev hC (bx : Nat) (oe : Option Nat) (ne ce n : Nat) (ol : Option Nat) (nl c : Nat) : List Value := [.bool true, slV oe ne ce, .int .u64 (n : Int), slV ol nl c, .func (.func 206) #[] #[ptrH bx], .func (.func 207) #[] #[ptrH bx]]
abbrev hR (p bx be ne ce : Nat) (te : List Value) (n bl nl c : Nat) (tl : List Value) (E : List El) (l : List Nat) : Heap := [⟨some p, cl (hC bx (some be) ne ce n (some bl) nl c) 293⟩, ⟨some bx, cl [ptrH p] 242⟩, ⟨some be, cl (E.flatMap encEl ++ te) 300⟩, ⟨some bl, cl (ivn l ++ tl) 3⟩]
theorem rk_dec {E : List El} {a b : Nat} {x y : El} (hx : E[a]? = some x) (hy : E[b]? = some y) (h1 : x.seq < 18446744073709551616) (h2 : y.seq < 18446744073709551616) (v : Bool) (h : v = true ↔ x.key < y.key ∨ (x.key = y.key ∧ x.seq < y.seq)) :
  Value.bool v = Value.bool (decide (rk E a < rk E b)) := by
 rw [rk_of hx, rk_of hy]
 congr 1
 rw [Bool.eq_iff_iff, decide_eq_true_iff, h]
 omega
theorem bef_ok (p bx be ne ce : Nat) (te : List Value) (n bl nl c : Nat) (tl : List Value) (E : List El) (l : List Nat) (hne : E.length = ne) (a b : Nat) (x y : El) (hx : E[a]? = some x) (hy : E[b]? = some y) (h1 : x.seq < 18446744073709551616) (h2 : y.seq < 18446744073709551616) :
  Spec Tryz.prog 206 [.int .i64 (a : Int), .int .i64 (b : Int), ptrH bx] (hR p bx be ne ce te n bl nl c tl E l) (fun r H' => r = .bool (decide (rk E a < rk E b)) ∧ H' = hR p bx be ne ce te n bl nl c tl E l) := by
 have hxl := (List.getElem?_eq_some_iff.1 hx).1
 have hyl := (List.getElem?_eq_some_iff.1 hy).1
 refine Spec.of (E := [(0, .int .i64 (a : Int)), (1, .int .i64 (b : Int)), (2, ptrH bx)]) Tryz.func206 rfl (by kernel_rfl) Tryz.ntmps206 rfl rfl (fun w => ?_)
 refine WC_seq (WC_region (WLa rfl (WL_nil (WQ_code (WC_seq ?_)))))
 refine WC_drawB _ [(0, .q), (1, .q), (2, .q), (3, .q), (4, .q), (5, .q), (6, .q), (7, .q), (8, .q), (9, .q), (10, .q), (11, .q), (12, .q), (13, .q), (14, .b [15]), (15, .b []), (16, .n []), (17, .n [])] followsMixed rfl rfl (by kernel_rfl) .all ?_
 refine WB_val rfl rfl rfl rfl (R_load rfl sc242 rfl (mmY) rfl) ?_
 refine WB_val rfl rfl rfl rfl (R_nilCheck rfl rfl) ?_
 refine WB_val rfl rfl rfl rfl (R_fieldAddr rfl fa293_1 rfl) ?_
 refine WB_val rfl rfl rfl rfl (R_load rfl sc288 rfl (mmY) rfl) ?_
 refine WB_val rfl rfl rfl rfl (R_move rfl rfl) ?_
 refine WB_val rfl rfl rfl rfl (R_indexAddrN rfl Tryz.underlying288 Tryz.sizeOf300 rfl rfl (by omega)) ?_
 refine WB_val rfl rfl rfl rfl (R_loadA (vs := encEl x) rfl ag300 rfl (mmY) rfl (fm_at0 encEl4 hx (j := 0) (vs := encEl x) (fun j v h => by rw [Nat.zero_add]; exact h) (Nat.le_refl 4))) ?_
 refine WB_val rfl rfl rfl rfl (R_load rfl sc242 rfl (mmY) rfl) ?_
 refine WB_val rfl rfl rfl rfl (R_nilCheck rfl rfl) ?_
 refine WB_val rfl rfl rfl rfl (R_fieldAddr rfl fa293_1 rfl) ?_
 refine WB_val rfl rfl rfl rfl (R_load rfl sc288 rfl (mmY) rfl) ?_
 refine WB_val rfl rfl rfl rfl (R_move rfl rfl) ?_
 refine WB_val rfl rfl rfl rfl (R_indexAddrN rfl Tryz.underlying288 Tryz.sizeOf300 rfl rfl (by omega)) ?_
 refine WB_val rfl rfl rfl rfl (R_loadA (vs := encEl y) rfl ag300 rfl (mmY) rfl (fm_at0 encEl4 hy (j := 0) (vs := encEl y) (fun j v h => by rw [Nat.zero_add]; exact h) (Nat.le_refl 4))) ?_
 refine WB_birth rfl rfl rfl rfl (.cons rfl rfl (B_alloc rfl zv300) .nil) (B_alloc rfl zv300) (fun b1 => ?_)
 refine WB_birth rfl rfl rfl rfl .nil (B_alloc rfl zv300) (fun b2 => ?_)
 refine WB_do0 rfl rfl rfl .nil (fun _ => D_store (vs := [_, _, _, _]) rfl Tryz.sizeOf300 rfl rfl rfl rfl rfl (plY) (Nat.le_of_ble_eq_true rfl)) ?_
 rintro _ _ rfl
 refine ⟨⟨_, pqY⟩, ?_⟩
 refine WB_do0 rfl rfl rfl .nil (fun _ => D_store (vs := [_, _, _, _]) rfl Tryz.sizeOf300 rfl rfl rfl rfl rfl (plY) (Nat.le_of_ble_eq_true rfl)) ?_
 rintro _ _ rfl
 refine ⟨⟨_, pqY⟩, ?_⟩
 refine WB_nil (WQ_code (WC_seq (WC_region ?_)))
 refine WL_val rfl rfl rfl (R_fieldAddr rfl fa300_0 rfl) ?_
 refine WL_val rfl rfl rfl (R_load rfl sc28 rfl (mmY) rfl) ?_
 refine WL_val rfl rfl rfl (R_fieldAddr rfl fa300_0 rfl) ?_
 refine WL_val rfl rfl rfl (R_load rfl sc28 rfl (mmY) rfl) ?_
 refine WL_val rfl rfl rfl (R_lss rfl rfl rfl) ?_
 refine WLa rfl ?_
 refine WL_splitD (s := 27) rfl (fun c1 => ?_) (fun c1 => ?_)
 ·have h27 : ((x.key : Nat) : Int) < (y.key : Nat) := c1
  refine WL_skip rfl rfl rfl ?_
  refine WL_skip rfl rfl rfl ?_
  refine WL_skip rfl rfl rfl ?_
  refine WL_skip rfl rfl rfl ?_
  refine WL_skip rfl rfl rfl ?_
  refine WL_skip rfl rfl rfl ?_
  refine WL_skip rfl rfl rfl ?_
  refine WL_skip rfl rfl rfl ?_
  refine WL_skip rfl rfl rfl ?_
  refine WL_skip rfl rfl rfl ?_
  refine WL_skip rfl rfl rfl ?_
  refine WL_skip rfl rfl rfl ?_
  refine WLa rfl (WLa rfl (WL_nil (WQ_code (WC_ret ?_))))
  refine WQ_ret rfl rfl (.cons (.tmp rfl) .nil) rfl (by
    exact ⟨rk_dec hx hy h1 h2 _ (by first | (rw [decide_eq_true_eq]; omega) | (simp; omega)), rfl⟩) (pqY)
 ·have h27 : ¬ ((x.key : Nat) : Int) < (y.key : Nat) := c1
  refine WL_val rfl rfl rfl (R_fieldAddr rfl fa300_0 rfl) ?_
  refine WL_val rfl rfl rfl (R_load rfl sc28 rfl (mmY) rfl) ?_
  refine WL_val rfl rfl rfl (R_fieldAddr rfl fa300_0 rfl) ?_
  refine WL_val rfl rfl rfl (R_load rfl sc28 rfl (mmY) rfl) ?_
  refine WL_val rfl rfl rfl (R_eql rfl rfl rfl) ?_
  refine WLa rfl ?_
  refine WL_splitD (s := 33) rfl (fun c2 => ?_) (fun c2 => ?_)
  ·have h33 : ((x.key : Nat) : Int) = (y.key : Nat) := c2
   refine WL_val rfl rfl rfl (R_fieldAddr rfl fa300_2 rfl) ?_
   refine WL_val rfl rfl rfl (R_load rfl sc27 rfl (mmY) rfl) ?_
   refine WL_val rfl rfl rfl (R_fieldAddr rfl fa300_2 rfl) ?_
   refine WL_val rfl rfl rfl (R_load rfl sc27 rfl (mmY) rfl) ?_
   refine WL_val rfl rfl rfl (R_lss rfl rfl rfl) ?_
   refine WLa rfl (WLa rfl (WLa rfl (WL_nil (WQ_code (WC_ret ?_)))))
   refine WQ_ret rfl rfl (.cons (.tmp rfl) .nil) rfl (by
     exact ⟨rk_dec hx hy h1 h2 _ (by first | (rw [decide_eq_true_eq]; omega) | (simp; omega)), rfl⟩) (pqY)
  ·have h33 : ¬ ((x.key : Nat) : Int) = (y.key : Nat) := c2
   refine WL_skip rfl rfl rfl ?_
   refine WL_skip rfl rfl rfl ?_
   refine WL_skip rfl rfl rfl ?_
   refine WL_skip rfl rfl rfl ?_
   refine WL_skip rfl rfl rfl ?_
   refine WLa rfl (WLa rfl (WLa rfl (WL_nil (WQ_code (WC_ret ?_)))))
   refine WQ_ret rfl rfl (.cons (.tmp rfl) .nil) rfl (by
     exact ⟨rk_dec hx hy h1 h2 _ (by first | (rw [decide_eq_true_eq]; omega) | (simp; omega)), rfl⟩) (pqY)
theorem put_ok (p bx be ne ce : Nat) (te : List Value) (n bl nl c : Nat) (tl : List Value) (E : List El) (l : List Nat) (hne : E.length = ne) (h : Nat) (i : Int) (x : El) (hx : E[h]? = some x) :
  Spec Tryz.prog 207 [.int .i64 (h : Int), .int .i64 i, ptrH bx] (hR p bx be ne ce te n bl nl c tl E l) (fun r H' => r = .tuple #[] ∧ H' = hR p bx be ne ce te n bl nl c tl (setp E h i) l) := by
 have hxl := (List.getElem?_eq_some_iff.1 hx).1
 refine Spec.of (E := [(0, .int .i64 (h : Int)), (1, .int .i64 i), (2, ptrH bx)]) Tryz.func207 rfl (by kernel_rfl) Tryz.ntmps207 rfl rfl (fun w => ?_)
 refine WC_region ?_
 refine WL_val rfl rfl rfl (R_load rfl sc242 rfl (mmY) rfl) ?_
 refine WLa rfl ?_
 refine WL_val rfl rfl rfl (R_fieldAddr rfl fa293_1 rfl) ?_
 refine WL_val rfl rfl rfl (R_load rfl sc288 rfl (mmY) rfl) ?_
 refine WLa rfl (WLa rfl ?_)
 refine WL_val rfl rfl rfl (R_indexAddrN rfl Tryz.underlying288 Tryz.sizeOf300 rfl rfl (by omega)) ?_
 refine WL_val rfl rfl rfl (R_fieldAddr rfl fa300_3 rfl) ?_
 refine WL_do0 rfl rfl (D_store (vs := [_]) rfl Tryz.sizeOf3 rfl rfl rfl rfl rfl (plY) (by exact fm_room0 encEl4 hxl (j := 3) (by omega))) ?_
 rintro _ _ rfl
 have hput := fm_put0 encEl4 ({ x with pos := i } : El) hx (j := 3) (vs := [.int .i64 i]) (by simp) rfl (tl := te)
 rw [hput, setp_of hx i]
 refine WL_nil ?_
 refine WQ_ret rfl rfl .nil rfl (by
   exact ⟨rfl, rfl⟩) (pqY)
theorem swap_ok (p bx be ne ce : Nat) (te : List Value) (n bl nl c : Nat) (tl : List Value) (E : List El) (l : List Nat) (hne : E.length = ne) (hnl : l.length = nl) (a b : Nat) (ha : a < l.length) (hb : b < l.length) (x y : El) (hx : E[gt0 l a]? = some x) (hy : E[gt0 l b]? = some y) :
  Spec Tryz.prog 208 [.pointer (some ⟨p, 3, none⟩), .int .i64 (a : Int), .int .i64 (b : Int)] (hR p bx be ne ce te n bl nl c tl E l) (fun r H' => r = .tuple #[] ∧ H' = hR p bx be ne ce te n bl nl c tl (setp (setp E (gt0 l b) (a : Int)) (gt0 l a) (b : Int)) (sw l a b)) := by
 have hla : l[a]? = some (gt0 l a) := by rw [gt0, List.getElem?_eq_getElem ha]; rfl
 have hlb : l[b]? = some (gt0 l b) := by rw [gt0, List.getElem?_eq_getElem hb]; rfl
 have hsa : (sw l a b)[a]? = some (gt0 l b) := by
  rw [sw_get ha hb]
  by_cases e : a = b
  ·subst e; simp
  ·simp [e]
 have hsb : (sw l a b)[b]? = some (gt0 l a) := by rw [sw_get ha hb]; simp
 refine Spec.of (E := [(0, .pointer (some ⟨p, 3, none⟩)), (1, .int .i64 (a : Int)), (2, .int .i64 (b : Int))]) Tryz.func208 rfl (by kernel_rfl) Tryz.ntmps208 rfl rfl (fun w => ?_)
 refine WC_seq ?_
 refine WC_drawE [⟨some bl, _⟩] [(0, false), (1, false), (2, false), (3, false), (4, false), (5, false), (6, false), (7, false), (8, false), (9, false), (10, false), (11, false), (12, false), (13, false), (14, false), (15, false), (16, true), (17, false), (18, false), (19, false), (20, false), (21, false), (22, false), (23, true)] [(24, true), (25, false), (26, true), (27, false)] followsMixed rfl rfl (by kernel_rfl) (pqY) ?_
 refine WZ_val rfl rfl rfl rfl (R_move rfl rfl) ?_
 refine WZ_val rfl rfl rfl rfl (R_nilCheck rfl rfl) ?_
 refine WZ_val rfl rfl rfl rfl (R_fieldAddr rfl fa291_0 rfl) ?_
 refine WZ_val rfl rfl rfl rfl (R_load rfl sc34 rfl (mmY) rfl) ?_
 refine WZ_val rfl rfl rfl rfl (R_move rfl rfl) ?_
 refine WZ_val rfl rfl rfl rfl (R_move rfl rfl) ?_
 refine WZ_val rfl rfl rfl rfl (R_nilCheck rfl rfl) ?_
 refine WZ_val rfl rfl rfl rfl (R_fieldAddr rfl fa291_0 rfl) ?_
 refine WZ_val rfl rfl rfl rfl (R_load rfl sc34 rfl (mmY) rfl) ?_
 refine WZ_val rfl rfl rfl rfl (R_move rfl rfl) ?_
 refine WZ_val rfl rfl rfl rfl (R_move rfl rfl) ?_
 refine WZ_val rfl rfl rfl rfl (R_nilCheck rfl rfl) ?_
 refine WZ_val rfl rfl rfl rfl (R_fieldAddr rfl fa291_0 rfl) ?_
 refine WZ_val rfl rfl rfl rfl (R_load rfl sc34 rfl (mmY) rfl) ?_
 refine WZ_val rfl rfl rfl rfl (R_move rfl rfl) ?_
 refine WZ_val rfl rfl rfl rfl (R_indexAddrN rfl Tryz.underlying34 Tryz.sizeOf3 rfl rfl (by omega)) ?_
 refine WZ_early rfl rfl rfl rfl (R_load (v := .int .i64 ((gt0 l b : Nat) : Int)) rfl sc3 rfl (mmY) (fm_get0 encN1 hlb (j := 0) (by omega))) ?_
 refine WZ_val rfl rfl rfl rfl (R_move rfl rfl) ?_
 refine WZ_val rfl rfl rfl rfl (R_nilCheck rfl rfl) ?_
 refine WZ_val rfl rfl rfl rfl (R_fieldAddr rfl fa291_0 rfl) ?_
 refine WZ_val rfl rfl rfl rfl (R_load rfl sc34 rfl (mmY) rfl) ?_
 refine WZ_val rfl rfl rfl rfl (R_move rfl rfl) ?_
 refine WZ_val rfl rfl rfl rfl (R_indexAddrN rfl Tryz.underlying34 Tryz.sizeOf3 rfl rfl (by omega)) ?_
 refine WZ_early rfl rfl rfl rfl (R_load (v := .int .i64 ((gt0 l a : Nat) : Int)) rfl sc3 rfl (mmY) (fm_get0 encN1 hla (j := 0) (by omega))) ?_
 refine WZ_rest ?_
 refine WM_val rfl rfl rfl rfl (R_indexAddrN rfl Tryz.underlying34 Tryz.sizeOf3 rfl rfl (by omega)) ?_
 refine WM_do0 rfl rfl rfl (D_store (vs := [_]) rfl Tryz.sizeOf3 rfl rfl rfl rfl rfl (plY) (by exact fm_room0 encN1 ha (j := 0) (by omega))) ?_
 rintro _ _ rfl
 refine ⟨⟨_, pqY⟩, ?_⟩
 have hput := fm_put0 encN1 (gt0 l b) hla (j := 0) (vs := [.int .i64 ((gt0 l b : Nat) : Int)]) (by simp) rfl (tl := tl)
 rw [Nat.add_zero] at hput
 rw [hput]
 refine WM_val rfl rfl rfl rfl (R_indexAddrN rfl Tryz.underlying34 Tryz.sizeOf3 rfl rfl (by omega)) ?_
 refine WM_do0 rfl rfl rfl (D_store (vs := [_]) rfl Tryz.sizeOf3 rfl rfl rfl rfl rfl (plY) (by exact fm_room0 encN1 (show b < (l.set a (gt0 l b)).length by rw [List.length_set]; exact hb) (j := 0) (by omega))) ?_
 rintro _ _ rfl
 refine ⟨⟨_, pqY⟩, ?_⟩
 obtain ⟨z9, hz9⟩ := exE (T := l.set a (gt0 l b)) (i := b) (by rw [List.length_set]; exact hb)
 have hput2 := fm_put0 encN1 (gt0 l a) hz9 (j := 0) (vs := [.int .i64 ((gt0 l a : Nat) : Int)]) (by simp) rfl (tl := tl)
 rw [Nat.add_zero] at hput2
 rw [hput2, show (l.set a (gt0 l b)).set b (gt0 l a) = sw l a b from rfl]
 refine WM_nil (WQ_code (WC_seq ?_))
 refine WC_drawR [⟨some be, _⟩] [(0, true), (1, true), (2, true), (3, true), (4, true), (5, true), (6, true), (7, true), (8, true), (9, true), (10, true), (11, true), (12, false)] followsMixed rfl rfl (by kernel_rfl) (pqY) ?_
 refine WMa rfl (WMa rfl ?_)
 refine WM_val rfl rfl rfl rfl (R_fieldAddr rfl fa291_2 rfl) ?_
 refine WM_val rfl rfl rfl rfl (R_load rfl sc289 rfl (mmY) rfl) ?_
 refine WMa rfl (WMa rfl ?_)
 refine WM_val rfl rfl rfl rfl (R_fieldAddr rfl fa291_0 rfl) ?_
 refine WM_val rfl rfl rfl rfl (R_load rfl sc34 rfl (mmY) rfl) ?_
 refine WMa rfl ?_
 refine WM_val rfl rfl rfl rfl (R_indexAddrN rfl Tryz.underlying34 Tryz.sizeOf3 rfl rfl (by omega)) ?_
 refine WM_val rfl rfl rfl rfl (R_load (v := .int .i64 ((gt0 l b : Nat) : Int)) rfl sc3 rfl (mmY) (fm_get0 encN1 hsa (j := 0) (by omega))) ?_
 refine WMa rfl ?_
 refine WM_do rfl rfl rfl rfl (D_call (put_ok p bx be ne ce te n bl nl c tl E (sw l a b) hne (gt0 l b) (a : Int) y hy) rfl rfl rfl rfl (pqY)) ?_
 rintro _ _ ⟨_, ⟨rfl, rfl⟩, rfl⟩
 refine ⟨⟨_, pqY⟩, ?_⟩
 refine WM_nil (WQ_code ?_)
 refine WC_drawR [⟨some be, _⟩] [(0, true), (1, true), (2, true), (3, true), (4, true), (5, true), (6, true), (7, true), (8, true), (9, true), (10, true), (11, true), (12, false)] followsMixed rfl rfl (by kernel_rfl) (pqY) ?_
 refine WMa rfl (WMa rfl ?_)
 refine WM_val rfl rfl rfl rfl (R_fieldAddr rfl fa291_2 rfl) ?_
 refine WM_val rfl rfl rfl rfl (R_load rfl sc289 rfl (mmY) rfl) ?_
 refine WMa rfl (WMa rfl ?_)
 refine WM_val rfl rfl rfl rfl (R_fieldAddr rfl fa291_0 rfl) ?_
 refine WM_val rfl rfl rfl rfl (R_load rfl sc34 rfl (mmY) rfl) ?_
 refine WMa rfl ?_
 refine WM_val rfl rfl rfl rfl (R_indexAddrN rfl Tryz.underlying34 Tryz.sizeOf3 rfl rfl (by omega)) ?_
 refine WM_val rfl rfl rfl rfl (R_load (v := .int .i64 ((gt0 l a : Nat) : Int)) rfl sc3 rfl (mmY) (fm_get0 encN1 hsb (j := 0) (by omega))) ?_
 refine WMa rfl ?_
 refine WM_do rfl rfl rfl rfl (D_call (put_ok p bx be ne ce te n bl nl c tl (setp E (gt0 l b) (a : Int)) (sw l a b) (by rw [setp_len]; exact hne) (gt0 l a) (b : Int) _ (setp_get hx)) rfl rfl rfl rfl (pqY)) ?_
 rintro _ _ ⟨_, ⟨rfl, rfl⟩, rfl⟩
 refine ⟨⟨_, pqY⟩, ?_⟩
 refine WM_nil ?_
 refine WQ_ret rfl rfl .nil rfl (by
   exact ⟨rfl, rfl⟩) (pqY)
end Go.Proofs.YtbkdebnkoidicaaGreat
end
section
set_option linter.unusedVariables false
set_option maxRecDepth 20000
set_option maxHeartbeats 4000000
namespace Go.Proofs.YtbkdebnkoidicaaGreat
structure UW where
 i : Nat
 E : List El
 l : List Nat
structure DW2 where
 c : Nat
 m : Nat
theorem up_ok (p bx be ne ce : Nat) (te : List Value) (n bl nl c : Nat) (tl : List Value) (E0 E : List El) (l : List Nat) (s : St E0 E l) (hne : E0.length = ne) (hnl : l.length = nl) (hbig : nl ≤ 2000) (i : Nat) (hi : i < nl) (hf : HFix (rkl E0 l) nl i) :
  Spec Tryz.prog 210 [.pointer (some ⟨p, 3, none⟩), .int .i64 (i : Int)] (hR p bx be ne ce te n bl nl c tl E l) (fun r H' => ∃ E' l', r = .tuple #[] ∧ H' = hR p bx be ne ce te n bl nl c tl E' l' ∧ St E0 E' l' ∧ l'.Perm l ∧ HDown (rkl E0 l') nl i) := by
 refine Spec.of (E := [(0, .pointer (some ⟨p, 3, none⟩)), (1, .int .i64 (i : Int))]) Tryz.func210 rfl (by kernel_rfl) Tryz.ntmps210 rfl rfl (fun w => ?_)
 refine WC_block ?_
 refine WC_loopF (G := UW) [1, 4, 5, 6, 7, 8, 9, 10, 11, 12, 13, 14, 15, 16, 17, 18, 19, 20, 21, 22, 23, 24, 25, 26, 27, 28, 29, 30, 31, 32, 33, 34, 35, 36, 37] (fun y => St E0 y.E y.l ∧ y.l.length = nl ∧ y.i < nl ∧ HFix (rkl E0 y.l) nl y.i ∧ (y.i = i ∨ HUp (rkl E0 y.l) nl y.i) ∧ y.l.Perm l) (fun y => [(1, .int .i64 (y.i : Int))]) (fun y => hR p bx be ne ce te n bl nl c tl y.E y.l) (fun y => y.i) (⟨i, E, l⟩) (⟨s, hnl, hi, hf, .inl rfl, .refl _⟩) leZ (pqY) ?_
 rintro y ⟨hs, hyl, hyi, hyf, hyu, hyp⟩
 refine WC_seq (WC_seq ?_)
 refine WC_draw _ [(0, true), (1, true), (2, true), (3, true), (4, true), (5, true), (6, true), (7, true), (8, true), (9, true), (10, true), (11, true), (12, true), (13, true), (14, true), (15, true), (16, true), (17, true), (18, true), (19, true), (20, true), (21, true), (22, true), (23, true), (24, true)] followsMixed rfl rfl (by kernel_rfl) .all ?_
 refine WMa rfl ?_
 refine WM_val rfl rfl rfl rfl (R_gtr rfl rfl rfl) ?_
 refine WMa rfl ?_
 refine WM_splitD (s := 6) rfl (fun c1 => ?_) (fun c1 => ?_)
 ·have h6 : ((y.i : Nat) : Int) > 0 := c1
  obtain ⟨q, hq⟩ : ∃ q, q = (y.i - 1) / 4 := ⟨_, rfl⟩
  obtain ⟨ha, xa, hla, ga, hxa, pa⟩ := hs.get (i := y.i) (by omega)
  obtain ⟨hb, xb, hlb, gb, hxb, pb⟩ := hs.get (i := q) (by omega)
  have ra : rkl E0 y.l y.i = rk y.E ha := by rw [rkl, ← hs.rk, ga]
  have rb : rkl E0 y.l q = rk y.E hb := by rw [rkl, ← hs.rk, gb]
  refine WMa rfl (WMa rfl ?_)
  refine WM_val rfl rfl rfl rfl (R_fieldAddr rfl fa291_1 rfl) ?_
  refine WM_val rfl rfl rfl rfl (R_load rfl sc39 rfl (mmY) rfl) ?_
  refine WMa rfl (WMa rfl ?_)
  refine WM_val rfl rfl rfl rfl (R_fieldAddr rfl fa291_0 rfl) ?_
  refine WM_val rfl rfl rfl rfl (R_load rfl sc34 rfl (mmY) rfl) ?_
  refine WMa rfl ?_
  refine WM_val rfl rfl rfl rfl (R_indexAddrN rfl Tryz.underlying34 Tryz.sizeOf3 rfl rfl (by omega)) ?_
  refine WM_val rfl rfl rfl rfl (R_load (v := .int .i64 ((ha : Nat) : Int)) rfl sc3 rfl (mmY) (fm_get0 encN1 hla (j := 0) (by omega))) ?_
  refine WMa rfl (WMa rfl ?_)
  refine WM_val rfl rfl rfl rfl (R_fieldAddr rfl fa291_0 rfl) ?_
  refine WM_val rfl rfl rfl rfl (R_load rfl sc34 rfl (mmY) rfl) ?_
  refine WMa rfl ?_
  refine WM_val rfl rfl rfl rfl (R_sub rfl rfl rfl (by omega)) ?_
  refine WM_val rfl rfl rfl rfl (R_quoR (r := ((q : Nat) : Int)) rfl rfl rfl (by omega) (quo4 (by omega) (by omega) hq)) ?_
  refine WM_val rfl rfl rfl rfl (R_indexAddrN rfl Tryz.underlying34 Tryz.sizeOf3 rfl rfl (by omega)) ?_
  refine WM_val rfl rfl rfl rfl (R_load (v := .int .i64 ((hb : Nat) : Int)) rfl sc3 rfl (mmY) (fm_get0 encN1 hlb (j := 0) (by omega))) ?_
  refine WM_call rfl (Spec.quiet (bef_ok p bx be ne ce te n bl nl c tl y.E y.l (by rw [hs.len]; exact hne) ha hb xa xb hxa hxb (hs.sq _ _ hxa) (hs.sq _ _ hxb))) rfl rfl rfl rfl rfl rfl rfl (pqY) ?_
  refine WMa rfl (WM_nil (WQ_code ?_))
  refine WC_dec rfl (fun c2 => ?_) (fun c2 => ?_)
  ·have hlt : rk y.E ha < rk y.E hb := c2
   refine WC_skip (WQ_code (WC_block (WC_seq (WC_region (WLa rfl (WLa rfl (WLa rfl ?_)))))))
   refine WL_val rfl rfl rfl (R_sub rfl rfl rfl (by omega)) ?_
   refine WL_val rfl rfl rfl (R_quoR (r := ((q : Nat) : Int)) rfl rfl rfl (by omega) (quo4 (by omega) (by omega) hq)) ?_
   refine WL_do rfl rfl rfl (D_call (swap_ok p bx be ne ce te n bl nl c tl y.E y.l (by rw [hs.len]; exact hne) hyl y.i q (by omega) (by omega) xa xb (by rw [ga]; exact hxa) (by rw [gb]; exact hxb)) rfl rfl rfl rfl (pqY)) ?_
   rintro _ _ ⟨_, ⟨rfl, rfl⟩, rfl⟩
   refine WL_nil (WQ_code (WC_region (WLa rfl ?_)))
   refine WL_val rfl rfl rfl (R_sub rfl rfl rfl (by omega)) ?_
   refine WL_val rfl rfl rfl (R_quoR (r := ((q : Nat) : Int)) rfl rfl rfl (by omega) (quo4 (by omega) (by omega) hq)) ?_
   refine WLa rfl (WL_nil ?_)
   have hup : HUp (rkl E0 (sw y.l y.i q)) nl q := up_step hyf (by omega) hyi hq (by omega) (sw_swapped (rk E0) (by omega) (by omega))
   refine WQ_nextF (⟨q, setp (setp y.E (gt0 y.l q) (y.i : Int)) (gt0 y.l y.i) (q : Int), sw y.l y.i q⟩) (⟨st_swap hs (by omega) (by omega), by dsimp only; rw [sw_len]; exact hyl, by dsimp only; omega, hup.fix, .inr hup, (sw_perm (by omega) (by omega)).trans hyp⟩) (by dsimp only; omega) leZ (psZ) rfl (pqY)
  ·have hge : ¬ rk y.E ha < rk y.E hb := c2
   refine WC_exit ?_
   refine WQ_ret rfl rfl .nil rfl (by
     exact ⟨y.E, y.l, rfl, rfl, hs, hyp, up_done hyf hyu hi (.inr (by rw [← hq]; omega))⟩) (pqY)
 ·have h6 : ¬ ((y.i : Nat) : Int) > 0 := c1
  refine WM_skip rfl rfl rfl rfl ?_
  refine WM_skip rfl rfl rfl rfl ?_
  refine WM_skip rfl rfl rfl rfl ?_
  refine WM_skip rfl rfl rfl rfl ?_
  refine WM_skip rfl rfl rfl rfl ?_
  refine WM_skip rfl rfl rfl rfl ?_
  refine WM_skip rfl rfl rfl rfl ?_
  refine WM_skip rfl rfl rfl rfl ?_
  refine WM_skip rfl rfl rfl rfl ?_
  refine WM_skip rfl rfl rfl rfl ?_
  refine WM_skip rfl rfl rfl rfl ?_
  refine WM_skip rfl rfl rfl rfl ?_
  refine WM_skip rfl rfl rfl rfl ?_
  refine WM_skip rfl rfl rfl rfl ?_
  refine WM_skip rfl rfl rfl rfl ?_
  refine WM_skip rfl rfl rfl rfl ?_
  refine WM_skip rfl rfl rfl rfl ?_
  refine WM_skip rfl rfl rfl rfl ?_
  refine WM_skip rfl rfl rfl rfl ?_
  refine WM_skip rfl rfl rfl rfl ?_
  refine WM_skip rfl rfl rfl rfl ?_
  refine WMa rfl (WM_nil (WQ_code ?_))
  refine WC_F rfl ?_
  refine WC_exit ?_
  refine WQ_ret rfl rfl .nil rfl (by
    exact ⟨y.E, y.l, rfl, rfl, hs, hyp, up_done hyf hyu hi (.inl (by omega))⟩) (pqY)
theorem down_ok (p bx be ne ce : Nat) (te : List Value) (n bl nl c : Nat) (tl : List Value) (E0 E : List El) (l : List Nat) (s : St E0 E l) (hne : E0.length = ne) (hnl : l.length = nl) (hbig : nl ≤ 2000) (i : Nat) (hi : i < nl) (hd : HDown (rkl E0 l) nl i) :
  Spec Tryz.prog 217 [.pointer (some ⟨p, 3, none⟩), .int .i64 (i : Int)] (hR p bx be ne ce te n bl nl c tl E l) (fun r H' => ∃ E' l', r = .tuple #[] ∧ H' = hR p bx be ne ce te n bl nl c tl E' l' ∧ St E0 E' l' ∧ l'.Perm l ∧ HOk (rkl E0 l') nl) := by
 refine Spec.of (E := [(0, .pointer (some ⟨p, 3, none⟩)), (1, .int .i64 (i : Int))]) Tryz.func217 rfl (by kernel_rfl) Tryz.ntmps217 rfl rfl (fun w => ?_)
 refine WC_block ?_
 refine WC_loopF (G := UW) [1, 4, 5, 6, 7, 8, 9, 10, 11, 12, 13, 14, 15, 16, 17, 18, 19, 20, 21, 22, 23, 24, 25, 26, 27, 28, 29, 30, 31, 32, 33, 34, 35, 36, 37, 38, 39, 40, 41, 42, 43, 44, 45, 46, 47, 48, 49, 50, 51, 52, 53] (fun y => St E0 y.E y.l ∧ y.l.length = nl ∧ y.i < nl ∧ HDown (rkl E0 y.l) nl y.i ∧ y.l.Perm l) (fun y => [(1, .int .i64 (y.i : Int))]) (fun y => hR p bx be ne ce te n bl nl c tl y.E y.l) (fun y => nl - y.i) (⟨i, E, l⟩) (⟨s, hnl, hi, hd, .refl _⟩) leZ (pqY) ?_
 rintro y ⟨hs, hyl, hyi, hyd, hyp⟩
 refine WC_block (WC_seq (WC_region (WLa rfl (WLa rfl (WL_nil (WQ_code (WC_seq (WC_seq (WC_region (WLa rfl ?_))))))))))
 refine WL_val rfl rfl rfl (R_mul rfl rfl rfl (by omega)) ?_
 refine WL_val rfl rfl rfl (R_add rfl rfl rfl (by omega)) ?_
 refine WLa rfl (WL_nil (WQ_code (WC_block ?_)))
 refine WC_loopF (G := DW2) [4, 5, 10, 11, 12, 13, 14, 15, 16, 17, 18, 19, 20, 21, 22, 23, 24, 25, 26, 27, 28, 29, 30, 31, 32, 33, 34, 35, 36, 37, 38, 39, 40, 41, 42, 43, 44, 45] (fun z => z.m < nl ∧ (z.m = y.i ∨ (0 < z.m ∧ (z.m - 1) / 4 = y.i)) ∧ 4 * y.i + 1 ≤ z.c ∧ z.c ≤ 4 * y.i + 5 ∧ rkl E0 y.l z.m ≤ rkl E0 y.l y.i ∧ (∀ c, 4 * y.i + 1 ≤ c → c < z.c → c < nl → rkl E0 y.l z.m ≤ rkl E0 y.l c)) (fun z => [(5, .int .i64 (z.c : Int)), (4, .int .i64 (z.m : Int))]) (fun z => []) (fun z => 4 * y.i + 5 - z.c) (⟨4 * y.i + 1, y.i⟩) (⟨hyi, .inl rfl, Nat.le_refl _, by dsimp only; omega, Nat.le_refl _, fun c h1 h2 _ => by dsimp only at h2; omega⟩) leZ (pqY) ?_
 rintro z ⟨hzm, hzi, hz1, hz5, hzr, hzc⟩
 refine WC_seq (WC_seq (WC_region (WLa rfl (WLa rfl ?_))))
 refine WL_val rfl rfl rfl (R_mul rfl rfl rfl (by omega)) ?_
 refine WL_val rfl rfl rfl (R_add rfl rfl rfl (by omega)) ?_
 refine WL_val rfl rfl rfl (R_leq rfl rfl rfl) ?_
 refine WLa rfl ?_
 refine WL_splitD (s := 15) rfl (fun c1 => ?_) (fun c1 => ?_)
 ·have h15 : ((z.c : Nat) : Int) ≤ 4 * ((y.i : Nat) : Int) + 4 := c1
  refine WLa rfl (WLa rfl (WLa rfl ?_))
  refine WL_val rfl rfl rfl (R_fieldAddr rfl fa291_0 rfl) ?_
  refine WL_val rfl rfl rfl (R_load rfl sc34 rfl (mmY) rfl) ?_
  refine WL_val rfl rfl rfl (R_len rfl Tryz.underlying34 rfl) ?_
  refine WL_val rfl rfl rfl (R_lss rfl rfl rfl) ?_
  refine WLa rfl (WL_nil (WQ_code ?_))
  refine WC_dec rfl (fun c2 => ?_) (fun c2 => ?_)
  ·refine WC_skip (WQ_code (WC_seq (WC_block (WC_seq ?_))))
   refine WC_draw _ [(0, true), (1, true), (2, true), (3, true), (4, true), (5, true), (6, true), (7, true), (8, true), (9, true), (10, true), (11, true), (12, true), (13, true), (14, true), (15, true), (16, true), (17, true), (18, true)] followsMixed rfl rfl (by kernel_rfl) .all ?_
   obtain ⟨ha, xa, hla, ga, hxa, pa⟩ := hs.get (i := z.c) (by omega)
   obtain ⟨hb, xb, hlb, gb, hxb, pb⟩ := hs.get (i := z.m) (by omega)
   have ra : rkl E0 y.l z.c = rk y.E ha := by rw [rkl, ← hs.rk, ga]
   have rb : rkl E0 y.l z.m = rk y.E hb := by rw [rkl, ← hs.rk, gb]
   refine WMa rfl (WMa rfl ?_)
   refine WM_val rfl rfl rfl rfl (R_fieldAddr rfl fa291_1 rfl) ?_
   refine WM_val rfl rfl rfl rfl (R_load rfl sc39 rfl (mmY) rfl) ?_
   refine WMa rfl (WMa rfl ?_)
   refine WM_val rfl rfl rfl rfl (R_fieldAddr rfl fa291_0 rfl) ?_
   refine WM_val rfl rfl rfl rfl (R_load rfl sc34 rfl (mmY) rfl) ?_
   refine WMa rfl ?_
   refine WM_val rfl rfl rfl rfl (R_indexAddrN rfl Tryz.underlying34 Tryz.sizeOf3 rfl rfl (by omega)) ?_
   refine WM_val rfl rfl rfl rfl (R_load (v := .int .i64 ((ha : Nat) : Int)) rfl sc3 rfl (mmY) (fm_get0 encN1 hla (j := 0) (by omega))) ?_
   refine WMa rfl (WMa rfl ?_)
   refine WM_val rfl rfl rfl rfl (R_fieldAddr rfl fa291_0 rfl) ?_
   refine WM_val rfl rfl rfl rfl (R_load rfl sc34 rfl (mmY) rfl) ?_
   refine WMa rfl ?_
   refine WM_val rfl rfl rfl rfl (R_indexAddrN rfl Tryz.underlying34 Tryz.sizeOf3 rfl rfl (by omega)) ?_
   refine WM_val rfl rfl rfl rfl (R_load (v := .int .i64 ((hb : Nat) : Int)) rfl sc3 rfl (mmY) (fm_get0 encN1 hlb (j := 0) (by omega))) ?_
   refine WM_call rfl (Spec.quiet (bef_ok p bx be ne ce te n bl nl c tl y.E y.l (by rw [hs.len]; exact hne) ha hb xa xb hxa hxb (hs.sq _ _ hxa) (hs.sq _ _ hxb))) rfl rfl rfl rfl rfl rfl rfl (pqY) ?_
   refine WM_nil (WQ_code ?_)
   refine WC_dec rfl (fun c3 => ?_) (fun c3 => ?_)
   ·have hlt : rk y.E ha < rk y.E hb := c3
    have hlt2 : rkl E0 y.l z.c < rkl E0 y.l z.m := by omega
    refine WC_region (WLa rfl (WLa rfl (WL_nil (WQ_code (WC_region (WLa rfl ?_))))))
    refine WL_val rfl rfl rfl (R_add rfl rfl rfl (by omega)) ?_
    refine WLa rfl (WL_nil ?_)
    refine WQ_nextF (⟨z.c + 1, z.c⟩) (⟨by dsimp only; omega, .inr (by dsimp only; omega), by dsimp only; omega, by dsimp only; omega, by dsimp only; omega, fun c h1 h2 h3 => by dsimp only at h2 ⊢; by_cases e : c = z.c; (subst e; exact Nat.le_refl _); (have := hzc c h1 (by omega) h3; omega)⟩) (by dsimp only; omega) leZ (psZ) rfl (pqY)
   ·have hge : ¬ rk y.E ha < rk y.E hb := c3
    have hge2 : ¬ rkl E0 y.l z.c < rkl E0 y.l z.m := by omega
    refine WC_skip (WQ_code (WC_region (WLa rfl ?_)))
    refine WL_val rfl rfl rfl (R_add rfl rfl rfl (by omega)) ?_
    refine WLa rfl (WL_nil ?_)
    refine WQ_nextF (⟨z.c + 1, z.m⟩) (⟨hzm, hzi, by dsimp only; omega, by dsimp only; omega, hzr, fun c h1 h2 h3 => by dsimp only at h2 ⊢; by_cases e : c = z.c; (subst e; omega); (exact hzc c h1 (by omega) h3)⟩) (by dsimp only; omega) leZ (psZ) rfl (pqY)
  ·refine WC_exit (WQ_code (WC_seq (WC_seq (WC_region (WLa rfl (WLa rfl ?_))))))
   refine WL_val rfl rfl rfl (R_eql rfl rfl rfl) ?_
   refine WL_nil (WQ_code ?_)
   refine WC_dec rfl (fun c4 => ?_) (fun c4 => ?_)
   ·have hmi : z.m = y.i := by omega
    refine WC_ret ?_
    refine WQ_ret rfl rfl .nil rfl (by
      exact ⟨y.E, y.l, rfl, rfl, hs, hyp, down_done hyd (fun c h1 h2 h3 => by have := hzc c (by omega) (by omega) h1; rw [hmi] at this; exact this)⟩) (pqY)
   ·have hmi : ¬ z.m = y.i := by omega
    obtain ⟨ha, xa, hla, ga, hxa, pa⟩ := hs.get (i := y.i) (by omega)
    obtain ⟨hb, xb, hlb, gb, hxb, pb⟩ := hs.get (i := z.m) (by omega)
    have ra : rkl E0 y.l y.i = rk y.E ha := by rw [rkl, ← hs.rk, ga]
    have rb : rkl E0 y.l z.m = rk y.E hb := by rw [rkl, ← hs.rk, gb]
    refine WC_skip (WQ_code (WC_seq (WC_region (WLa rfl (WLa rfl (WLa rfl ?_))))))
    refine WL_do rfl rfl rfl (D_call (swap_ok p bx be ne ce te n bl nl c tl y.E y.l (by rw [hs.len]; exact hne) hyl y.i z.m (by omega) (by omega) xa xb (by rw [ga]; exact hxa) (by rw [gb]; exact hxb)) rfl rfl rfl rfl (pqY)) ?_
    rintro _ _ ⟨_, ⟨rfl, rfl⟩, rfl⟩
    refine WL_nil (WQ_code (WC_region (WLa rfl (WLa rfl (WL_nil ?_)))))
    have hdn : HDown (rkl E0 (sw y.l y.i z.m)) nl z.m := down_step hyd hzm (by omega) (by omega) hzr (fun c h1 h2 h3 => hzc c (by omega) (by omega) h1) (sw_swapped (rk E0) (by omega) (by omega))
    refine WQ_nextF (⟨z.m, setp (setp y.E (gt0 y.l z.m) (y.i : Int)) (gt0 y.l y.i) (z.m : Int), sw y.l y.i z.m⟩) (⟨st_swap hs (by omega) (by omega), by dsimp only; rw [sw_len]; exact hyl, hzm, hdn, (sw_perm (by omega) (by omega)).trans hyp⟩) (by dsimp only; omega) leZ (psZ) rfl (pqY)
 ·have h15 : ¬ ((z.c : Nat) : Int) ≤ 4 * ((y.i : Nat) : Int) + 4 := c1
  refine WL_skip rfl rfl rfl ?_
  refine WL_skip rfl rfl rfl ?_
  refine WL_skip rfl rfl rfl ?_
  refine WL_skip rfl rfl rfl ?_
  refine WL_skip rfl rfl rfl ?_
  refine WL_skip rfl rfl rfl ?_
  refine WL_skip rfl rfl rfl ?_
  refine WLa rfl (WL_nil (WQ_code ?_))
  refine WC_F rfl ?_
  refine WC_exit (WQ_code (WC_seq (WC_seq (WC_region (WLa rfl (WLa rfl ?_))))))
  refine WL_val rfl rfl rfl (R_eql rfl rfl rfl) ?_
  refine WL_nil (WQ_code ?_)
  refine WC_dec rfl (fun c5 => ?_) (fun c5 => ?_)
  ·have hmi : z.m = y.i := by omega
   refine WC_ret ?_
   refine WQ_ret rfl rfl .nil rfl (by
     exact ⟨y.E, y.l, rfl, rfl, hs, hyp, down_done hyd (fun c h1 h2 h3 => by have := hzc c (by omega) (by omega) h1; rw [hmi] at this; exact this)⟩) (pqY)
  ·have hmi : ¬ z.m = y.i := by omega
   obtain ⟨ha, xa, hla, ga, hxa, pa⟩ := hs.get (i := y.i) (by omega)
   obtain ⟨hb, xb, hlb, gb, hxb, pb⟩ := hs.get (i := z.m) (by omega)
   have ra : rkl E0 y.l y.i = rk y.E ha := by rw [rkl, ← hs.rk, ga]
   have rb : rkl E0 y.l z.m = rk y.E hb := by rw [rkl, ← hs.rk, gb]
   refine WC_skip (WQ_code (WC_seq (WC_region (WLa rfl (WLa rfl (WLa rfl ?_))))))
   refine WL_do rfl rfl rfl (D_call (swap_ok p bx be ne ce te n bl nl c tl y.E y.l (by rw [hs.len]; exact hne) hyl y.i z.m (by omega) (by omega) xa xb (by rw [ga]; exact hxa) (by rw [gb]; exact hxb)) rfl rfl rfl rfl (pqY)) ?_
   rintro _ _ ⟨_, ⟨rfl, rfl⟩, rfl⟩
   refine WL_nil (WQ_code (WC_region (WLa rfl (WLa rfl (WL_nil ?_)))))
   have hdn : HDown (rkl E0 (sw y.l y.i z.m)) nl z.m := down_step hyd hzm (by omega) (by omega) hzr (fun c h1 h2 h3 => hzc c (by omega) (by omega) h1) (sw_swapped (rk E0) (by omega) (by omega))
   refine WQ_nextF (⟨z.m, setp (setp y.E (gt0 y.l z.m) (y.i : Int)) (gt0 y.l y.i) (z.m : Int), sw y.l y.i z.m⟩) (⟨st_swap hs (by omega) (by omega), by dsimp only; rw [sw_len]; exact hyl, hzm, hdn, (sw_perm (by omega) (by omega)).trans hyp⟩) (by dsimp only; omega) leZ (psZ) rfl (pqY)
theorem fix_ok (p bx be ne ce : Nat) (te : List Value) (n bl nl c : Nat) (tl : List Value) (E0 E : List El) (l : List Nat) (s : St E0 E l) (hne : E0.length = ne) (hnl : l.length = nl) (hbig : nl ≤ 2000) (i : Nat) (hi : i < nl) (hf : HFix (rkl E0 l) nl i) :
  Spec Tryz.prog 209 [.pointer (some ⟨p, 3, none⟩), .int .i64 (i : Int)] (hR p bx be ne ce te n bl nl c tl E l) (fun r H' => ∃ E' l', r = .tuple #[] ∧ H' = hR p bx be ne ce te n bl nl c tl E' l' ∧ St E0 E' l' ∧ l'.Perm l ∧ HOk (rkl E0 l') nl) := by
 refine Spec.of (E := [(0, .pointer (some ⟨p, 3, none⟩)), (1, .int .i64 (i : Int))]) Tryz.func209 rfl (by kernel_rfl) Tryz.ntmps209 rfl rfl (fun w => ?_)
 refine WC_seq (WC_region (WLa rfl (WLa rfl ?_)))
 refine WL_do rfl rfl rfl (D_call (up_ok p bx be ne ce te n bl nl c tl E0 E l s hne hnl hbig i hi hf) rfl rfl rfl rfl (pqY)) ?_
 rintro _ _ ⟨_, ⟨E1, l1, rfl, rfl, s1, p1, d1⟩, rfl⟩
 refine WL_nil (WQ_code (WC_region (WLa rfl (WLa rfl ?_))))
 refine WL_do rfl rfl rfl (D_call (down_ok p bx be ne ce te n bl nl c tl E0 E1 l1 s1 hne (p1.length_eq.trans hnl) hbig i hi d1) rfl rfl rfl rfl (pqY)) ?_
 rintro _ _ ⟨_, ⟨E2, l2, rfl, rfl, s2, p2, d2⟩, rfl⟩
 refine WL_nil ?_
 refine WQ_ret rfl rfl .nil rfl (by
   exact ⟨E2, l2, rfl, rfl, s2, p2.trans p1, d2⟩) (pqY)
end Go.Proofs.YtbkdebnkoidicaaGreat
end
section
set_option linter.unusedVariables false
set_option maxRecDepth 20000
set_option maxHeartbeats 2000000
namespace Go.Proofs.YtbkdebnkoidicaaGreat
theorem ivn_snoc (l : List Nat) (h : Nat) : ivn (l ++ [h]) = ivn l ++ [.int .i64 (h : Int)] := by simp
theorem list_snoc {l : List Nat} {m h : Nat} (hl : l.length = m + 1) (hm : l[m]? = some h) : l = l.take m ++ [h] := by
 have h1 : l.take (m + 1) = l := List.take_of_length_le (by omega)
 obtain ⟨h2, rfl⟩ := List.getElem?_eq_some_iff.1 hm
 rw [List.take_append_getElem, h1]
theorem Own.like {ob : Option Nat} {n c sz : Nat} {xs ys tl : List Value} (h : Own ob n c sz xs tl) (e : ys.length = xs.length) : Own ob n c sz ys tl := ⟨by rw [e]; exact h.len, by rw [e]; exact h.cap, h.le, h.big, h.nil⟩
theorem qadd_ok (p bx be ne ce : Nat) (te : List Value) (n : Nat) (ol : Option Nat) (c : Nat) (tl : List Value) (E : List El) (l : List Nat) (s : St E E l) (ho : HOk (rkl E l) l.length) (hne : E.length = ne) (own : Own ol l.length c 1 (ivn l) tl) (hbig : l.length ≤ 1024) (h : Nat) (x : El) (hx : E[h]? = some x) (hn : h ∉ l) :
  Spec Tryz.prog 188 [.pointer (some ⟨p, 3, none⟩), .int .i64 (h : Int)] [⟨some p, cl (hC bx (some be) ne ce n ol l.length c) 293⟩, ⟨some bx, cl [ptrH p] 242⟩, ⟨some be, cl (E.flatMap encEl ++ te) 300⟩, ⟨ol, cl (ivn l ++ tl) 3⟩]
  (fun r H' => ∃ E' l' bl c' tl', r = .tuple #[] ∧ H' = hR p bx be ne ce te n bl (l.length + 1) c' tl' E' l' ∧ Own (some bl) (l.length + 1) c' 1 (ivn l') tl' ∧ St E E' l' ∧ l'.Perm (l ++ [h]) ∧ HOk (rkl E l') (l.length + 1)) := by
 have hfx : HFix (rkl E (l ++ [h])) (l.length + 1) l.length := add_fix ho (fun j hj => by rw [rkl, rkl, gt0, gt0, List.getElem?_append_left hj])
 refine Spec.of (E := [(0, .pointer (some ⟨p, 3, none⟩)), (1, .int .i64 (h : Int))]) Tryz.func188 rfl (by kernel_rfl) Tryz.ntmps188 rfl rfl (fun w => ?_)
 refine WC_seq (WC_region (WLa rfl (WLa rfl (WLa rfl ?_))))
 refine WL_val rfl rfl rfl (R_fieldAddr rfl fa291_0 rfl) ?_
 refine WL_val rfl rfl rfl (R_load rfl sc34 rfl (mmY) rfl) ?_
 refine WLa rfl ?_
 refine WL_do rfl rfl rfl (D_buildSlice rfl si34 rfl rfl rfl) ?_
 rintro _ _ ⟨b1, rfl, rfl⟩
 refine WL_do rfl rfl rfl (D_append rfl si34 rfl (own) (plY) rfl (mmY) ((atZ : At _ 0 [_])) (rfl) (rfl) (by omega) (by omega)) ?_
 rintro _ _ ⟨ob2, cap2, tl2, rfl, own2, rfl⟩
 obtain ⟨bl, rfl⟩ := own2.some_of (by omega)
 rw [← ivn_snoc] at own2 ⊢
 refine WLa rfl ?_
 refine WL_val rfl rfl rfl (R_fieldAddr rfl fa291_0 rfl) ?_
 refine WL_do0 rfl rfl (D_store (vs := [_]) rfl Tryz.sizeOf34 rfl rfl rfl rfl rfl (plY) (Nat.le_of_ble_eq_true rfl)) ?_
 rintro _ _ rfl
 refine WL_nil (WQ_code (WC_seq ?_))
 refine WC_drawR [⟨some be, _⟩] [(0, true), (1, true), (2, true), (3, true), (4, true), (5, true), (6, true), (7, true), (8, true), (9, true), (10, true), (11, false)] followsMixed rfl rfl (by kernel_rfl) (pqY) ?_
 refine WMa rfl (WMa rfl ?_)
 refine WM_val rfl rfl rfl rfl (R_fieldAddr rfl fa291_2 rfl) ?_
 refine WM_val rfl rfl rfl rfl (R_load rfl sc289 rfl (mmY) rfl) ?_
 refine WMa rfl (WMa rfl (WMa rfl ?_))
 refine WM_val rfl rfl rfl rfl (R_fieldAddr rfl fa291_0 rfl) ?_
 refine WM_val rfl rfl rfl rfl (R_load rfl sc34 rfl (mmY) rfl) ?_
 refine WM_val rfl rfl rfl rfl (R_len rfl Tryz.underlying34 rfl) ?_
 refine WM_val rfl rfl rfl rfl (R_subR (r := ((l.length : Nat) : Int)) rfl rfl rfl (by rw [IntWalk.i64_in _ (by omega)]; omega)) ?_
 refine WM_do rfl rfl rfl rfl (D_call (put_ok p bx be ne ce te n bl (l.length + 1) cap2 tl2 E (l ++ [h]) hne h ((l.length : Nat) : Int) x hx) rfl rfl rfl rfl (pqY)) ?_
 rintro _ _ ⟨_, ⟨rfl, rfl⟩, rfl⟩
 refine ⟨⟨_, pqY⟩, ?_⟩
 refine WM_nil (WQ_code (WC_region (WLa rfl (WLa rfl (WLa rfl ?_)))))
 refine WL_val rfl rfl rfl (R_fieldAddr rfl fa291_0 rfl) ?_
 refine WL_val rfl rfl rfl (R_load rfl sc34 rfl (mmY) rfl) ?_
 refine WL_val rfl rfl rfl (R_len rfl Tryz.underlying34 rfl) ?_
 refine WL_val rfl rfl rfl (R_subR (r := ((l.length : Nat) : Int)) rfl rfl rfl (by rw [IntWalk.i64_in _ (by omega)]; omega)) ?_
 refine WL_do rfl rfl rfl (D_call (up_ok p bx be ne ce te n bl (l.length + 1) cap2 tl2 E (setp E h ((l.length : Nat) : Int)) (l ++ [h]) (st_add s hx hn) hne (by rw [List.length_append, List.length_singleton]) (by omega) l.length (by omega) hfx) rfl rfl rfl rfl (pqY)) ?_
 rintro _ _ ⟨_, ⟨E', l', rfl, rfl, s', p', d'⟩, rfl⟩
 refine WL_nil ?_
 refine WQ_ret rfl rfl .nil rfl (by
   exact ⟨E', l', bl, cap2, tl2, rfl, rfl, own2.like (by rw [fm_length encN1, fm_length encN1, p'.length_eq]), s', p', add_ok d'⟩) (pqY)
theorem qcut_ok (p bx be ne ce : Nat) (te : List Value) (n bl nl c : Nat) (tl : List Value) (E : List El) (l : List Nat) (s : St E E l) (ho : HOk (rkl E l) l.length) (hne : E.length = ne) (m : Nat) (hnl : l.length = m + 1) (hnl2 : nl = m + 1) (hbig : m ≤ 1024) (hcap : nl ≤ c) (i h : Nat) (hi : l[i]? = some h) :
  Spec Tryz.prog 185 [.pointer (some ⟨p, 3, none⟩), .int .i64 (i : Int)] (hR p bx be ne ce te n bl nl c tl E l) (fun r H' => ∃ E2 E3 l3 l4, r = .tuple #[] ∧ H' = hR p bx be ne ce te n bl m c (.int .i64 (h : Int) :: tl) E3 l4 ∧ St E E2 (l3 ++ [h]) ∧ (l3 ++ [h]).Perm l ∧ St E2 E3 l4 ∧ l4.Perm l3 ∧ HOk (rkl E3 l4) m) := by
 subst hnl2
 have hil : i < l.length := (List.getElem?_eq_some_iff.1 hi).1
 have hml : m < l.length := by omega
 obtain ⟨ha, xa, hla, ga, hxa, pa⟩ := s.get (i := i) hil
 obtain ⟨hb, xb, hlb, gb, hxb, pb⟩ := s.get (i := m) hml
 obtain rfl : h = ha := by rw [hi] at hla; exact Option.some.inj hla
 have s2 := st_swap s hil hml
 have hsm : (sw l i m)[m]? = some h := by rw [sw_get hil hml, if_pos rfl, ga]
 obtain ⟨l3, hl3⟩ : ∃ l3, l3 = (sw l i m).take m := ⟨_, rfl⟩
 have hl2 : sw l i m = l3 ++ [h] := by rw [hl3]; exact list_snoc (by rw [sw_len]; exact hnl) hsm
 have h3l : l3.length = m := by rw [hl3, List.length_take, sw_len]; omega
 have hp2 : (l3 ++ [h]).Perm l := by rw [← hl2]; exact sw_perm hil hml
 have s22 := s2
 rw [hl2] at s22
 have s3 := Hp.cut0 s22
 have hcg : ∀ j, j < m → rkl (setp (setp E (gt0 l m) (i : Int)) (gt0 l i) (m : Int)) l3 j = rkl E (sw l i m) j := fun j hj => by
  rw [rkl, rkl, s2.rk, hl2, gt0, gt0, List.getElem?_append_left (by omega)]
 have hswp := sw_swapped (rk E) hil hml
 refine Spec.of (E := [(0, .pointer (some ⟨p, 3, none⟩)), (1, .int .i64 (i : Int))]) Tryz.func185 rfl (by kernel_rfl) Tryz.ntmps185 rfl rfl (fun w => ?_)
 refine WC_seq (WC_region (WLa rfl (WLa rfl ?_)))
 refine WL_val rfl rfl rfl (R_fieldAddr rfl fa291_0 rfl) ?_
 refine WL_val rfl rfl rfl (R_load rfl sc34 rfl (mmY) rfl) ?_
 refine WL_val rfl rfl rfl (R_len rfl Tryz.underlying34 rfl) ?_
 refine WL_val rfl rfl rfl (R_subR (r := ((m : Nat) : Int)) rfl rfl rfl (by rw [IntWalk.i64_in _ (by omega)]; omega)) ?_
 refine WLa rfl (WL_nil (WQ_code (WC_seq (WC_region (WLa rfl (WLa rfl (WLa rfl ?_)))))))
 refine WL_do rfl rfl rfl (D_call (swap_ok p bx be ne ce te n bl (m + 1) c tl E l hne hnl i m hil hml xa xb (by rw [ga]; exact hxa) (by rw [gb]; exact hxb)) rfl rfl rfl rfl (pqY)) ?_
 rintro _ _ ⟨_, ⟨rfl, rfl⟩, rfl⟩
 refine WL_nil (WQ_code (WC_seq (WC_region (WLa rfl (WLa rfl (WLa rfl ?_))))))
 refine WL_val rfl rfl rfl (R_fieldAddr rfl fa291_0 rfl) ?_
 refine WL_val rfl rfl rfl (R_load rfl sc34 rfl (mmY) rfl) ?_
 refine WLa rfl ?_
 refine WL_val rfl rfl rfl (R_sliceTo (m := m) rfl Tryz.underlying34 Tryz.sizeOf3 rfl rfl (by omega)) ?_
 refine WLa rfl ?_
 refine WL_val rfl rfl rfl (R_fieldAddr rfl fa291_0 rfl) ?_
 refine WL_do0 rfl rfl (D_store (vs := [_]) rfl Tryz.sizeOf34 rfl rfl rfl rfl rfl (plY) (Nat.le_of_ble_eq_true rfl)) ?_
 rintro _ _ rfl
 rw [hl2, show ivn (l3 ++ [h]) ++ tl = ivn l3 ++ (Value.int .i64 (h : Int) :: tl) from by rw [ivn_snoc, List.append_assoc]; rfl]
 refine WL_nil (WQ_code (WC_seq (WC_region (WLa rfl (WLa rfl ?_)))))
 refine WL_val rfl rfl rfl (R_lss rfl rfl rfl) ?_
 refine WL_nil (WQ_code ?_)
 refine WC_dec rfl (fun c1 => ?_) (fun c1 => ?_)
 ·have him : i < m := by omega
  refine WC_region (WLa rfl (WLa rfl ?_))
  refine WL_do rfl rfl rfl (D_call (fix_ok p bx be ne ce te n bl m c (.int .i64 (h : Int) :: tl) _ _ l3 s3 (by rw [setp_len, setp_len]; exact hne) h3l (by omega) i (by omega) ((cut_fix (hnl ▸ ho) (by omega) hswp).cong (by omega) hcg)) rfl rfl rfl rfl (pqY)) ?_
  rintro _ _ ⟨_, ⟨E3, l4, rfl, rfl, s4, p4, o4⟩, rfl⟩
  refine WL_nil ?_
  refine WQ_ret rfl rfl .nil rfl (by
    exact ⟨_, E3, l3, l4, rfl, rfl, s22, hp2, s4, p4, o4.cong (fun j _ => by rw [rkl, rkl, s4.rk])⟩) (pqY)
 ·obtain rfl : i = m := by omega
  refine WC_skip ?_
  refine WQ_ret rfl rfl .nil rfl (by
    exact ⟨_, _, l3, l3, rfl, rfl, s22, hp2, s3, .refl _, HOk.cong (F := rkl E (sw l i i)) (fun j h1 h2 => by rw [hnl] at ho; have := ho j h1 (by omega); rw [rkl, rkl, hswp.o j (by omega) (by omega), hswp.o _ (by omega) (by omega)]; exact this) hcg⟩) (pqY)
end Go.Proofs.YtbkdebnkoidicaaGreat
end
section
set_option linter.unusedVariables false
set_option maxRecDepth 20000
set_option maxHeartbeats 4000000
namespace Go.Proofs.YtbkdebnkoidicaaGreat
abbrev hH (p bx : Nat) (oe : Option Nat) (ne ce : Nat) (te : List Value) (n : Nat) (ol : Option Nat) (nl c : Nat) (tl : List Value) (E : List El) (l : List Nat) : Heap := [⟨some p, cl (hC bx oe ne ce n ol nl c) 293⟩, ⟨some bx, cl [ptrH p] 242⟩, ⟨oe, cl (E.flatMap encEl ++ te) 300⟩, ⟨ol, cl (ivn l ++ tl) 3⟩]
structure HM where
 p : Nat
 bx : Nat
 oe : Option Nat
 ne : Nat
 ce : Nat
 te : List Value
 n : Nat
 ol : Option Nat
 nl : Nat
 c : Nat
 tl : List Value
 E : List El
 l : List Nat
abbrev gH (g : HM) : Heap := hH g.p g.bx g.oe g.ne g.ce g.te g.n g.ol g.nl g.c g.tl g.E g.l
structure HIs (W : List WE) (g : HM) : Prop where
 hp : Hp W g.E g.l g.n
 ne : g.E.length = g.ne
 nl : g.l.length = g.nl
 oe : Own g.oe g.ne g.ce 4 (g.E.flatMap encEl) g.te
 ol : Own g.ol g.nl g.c 1 (ivn g.l) g.tl
theorem hzero_ok (p bx : Nat) (oe : Option Nat) (ne ce n : Nat) (ol : Option Nat) (nl c : Nat) : Spec Tryz.prog 183 [ptrH p] [⟨some p, cl (hC bx oe ne ce n ol nl c) 293⟩] (fun r H' => r = .bool false ∧ H' = [⟨some p, cl (hC bx oe ne ce n ol nl c) 293⟩]) := by
 refine Spec.of (E := [(0, ptrH p)]) Tryz.func183 rfl (by kernel_rfl) Tryz.ntmps183 rfl rfl (fun w => ?_)
 refine WC_seq (WC_region (WLa rfl (WL_nil (WQ_code (WC_seq (WC_region (WLa rfl ?_)))))))
 refine WL_val rfl rfl rfl (R_ptrEqNil rfl Tryz.underlying242 rfl) ?_
 refine WLa rfl (WLa rfl (WLa rfl ?_))
 refine WL_val rfl rfl rfl (R_fieldAddr rfl fa293_0 rfl) ?_
 refine WL_val rfl rfl rfl (R_load rfl sc4 rfl (mmY) rfl) ?_
 refine WL_set (s := 9) (v := .bool true) rfl (by rfl) ?_
 refine WL_val rfl rfl rfl (R_not rfl rfl) ?_
 refine WLa rfl (WLa rfl (WL_nil (WQ_code (WC_ret ?_))))
 refine WQ_ret rfl rfl (.cons (.tmp rfl) .nil) rfl (by
   exact ⟨rfl, rfl⟩) (pqY)
theorem hbind_ok (p : Nat) (a b cc : Value) (d e f : Value) : Spec Tryz.prog 181 [ptrH p] [⟨some p, cl [a, b, cc, d, e, f] 293⟩] (fun r H' => ∃ bx, r = .tuple #[] ∧ H' = [⟨some p, cl [a, b, cc, d, .func (.func 206) #[] #[ptrH bx], .func (.func 207) #[] #[ptrH bx]] 293⟩, ⟨some bx, cl [ptrH p] 242⟩]) := by
 refine Spec.of (E := [(0, ptrH p)]) Tryz.func181 rfl (by kernel_rfl) Tryz.ntmps181 rfl rfl (fun w => ?_)
 refine WC_seq (WC_region ?_)
 refine WL_do rfl rfl rfl (D_box (cs := [_]) rfl rfl rfl) ?_
 rintro _ _ ⟨b1, rfl, rfl⟩
 refine WL_nil (WQ_code (WC_seq (WC_region ?_)))
 refine WL_val rfl rfl rfl (R_load rfl sc242 rfl (mmY) rfl) ?_
 refine WL_val rfl rfl rfl (R_makeFunc rfl rfl rfl) ?_
 refine WLa rfl ?_
 refine WL_val rfl rfl rfl (R_fieldAddr rfl fa293_3 rfl) ?_
 refine WL_val rfl rfl rfl (R_fieldAddr rfl fa291_1 rfl) ?_
 refine WL_do0 rfl rfl (D_store (vs := [_]) rfl Tryz.sizeOf39 rfl rfl rfl rfl rfl (plY) (Nat.le_of_ble_eq_true rfl)) ?_
 rintro _ _ rfl
 refine WL_nil (WQ_code (WC_region ?_))
 refine WL_val rfl rfl rfl (R_load rfl sc242 rfl (mmY) rfl) ?_
 refine WL_val rfl rfl rfl (R_makeFunc rfl rfl rfl) ?_
 refine WLa rfl ?_
 refine WL_val rfl rfl rfl (R_fieldAddr rfl fa293_3 rfl) ?_
 refine WL_val rfl rfl rfl (R_fieldAddr rfl fa291_2 rfl) ?_
 refine WL_do0 rfl rfl (D_store (vs := [_]) rfl Tryz.sizeOf289 rfl rfl rfl rfl rfl (plY) (Nat.le_of_ble_eq_true rfl)) ?_
 rintro _ _ rfl
 refine WL_nil ?_
 refine WQ_ret rfl rfl .nil rfl (by
   exact ⟨b1, rfl, rfl⟩) (pqY)
theorem hnew_x : Spec Tryz.prog 146 [] [] (fun r H' => ∃ p bx, r = ptrH p ∧ H' = hH p bx none 0 0 [] 0 none 0 0 [] [] []) := by
 refine Spec.of (E := []) Tryz.func146 rfl (by kernel_rfl) Tryz.ntmps146 rfl rfl (fun w => ?_)
 refine WC_seq (WC_region (WLa rfl (WL_nil (WQ_code (WC_seq (WC_region ?_))))))
 refine WL_val rfl rfl rfl (R_build rfl zv293 pl293 rfl rfl) ?_
 refine WL_do rfl rfl rfl (D_box (cs := [_, _, _, _, _, _]) rfl rfl rfl) ?_
 rintro _ _ ⟨b1, rfl, rfl⟩
 refine WLa rfl (WL_nil (WQ_code (WC_seq (WC_region (WLa rfl ?_)))))
 refine WL_do rfl rfl rfl (D_call (hbind_ok _ _ _ _ _ _ _) rfl rfl rfl rfl (pqY)) ?_
 rintro _ _ ⟨_, ⟨bx, rfl, rfl⟩, rfl⟩
 refine WL_nil (WQ_code (WC_seq (WC_region (WLa rfl (WLa rfl (WL_nil (WQ_code (WC_ret ?_))))))))
 refine WQ_none 300 (WQ_none 3 ?_)
 refine WQ_ret rfl rfl (.cons (.tmp rfl) .nil) rfl (by
   exact ⟨_, bx, rfl, rfl⟩) (pqY)
theorem htop_none (p bx : Nat) (oe : Option Nat) (ne ce : Nat) (te : List Value) (n : Nat) (ol : Option Nat) (nl c : Nat) (tl : List Value) (E : List El) (l : List Nat) (h0 : nl = 0) : Spec Tryz.prog 153 [ptrH p] (hH p bx oe ne ce te n ol nl c tl E l) (fun r H' => r = .tuple #[.int .i64 0, .int .i64 9] ∧ H' = hH p bx oe ne ce te n ol nl c tl E l) := by
 refine Spec.of (E := [(0, ptrH p)]) Tryz.func153 rfl (by kernel_rfl) Tryz.ntmps153 rfl rfl (fun w => ?_)
 refine WC_seq (WC_region (WLa rfl (WLa rfl (WL_nil (WQ_code (WC_seq (WC_block (WC_seq (WC_region (WLa rfl ?_))))))))))
 refine WL_do rfl rfl rfl (D_call (hzero_ok p bx _ _ _ _ _ _ _) rfl rfl rfl rfl (pqY)) ?_
 rintro _ _ ⟨_, ⟨rfl, rfl⟩, rfl⟩
 refine WLa rfl (WL_nil (WQ_code ?_))
 refine WC_F rfl ?_
 refine WC_seq (WC_region (WLa rfl (WLa rfl ?_)))
 refine WL_val rfl rfl rfl (R_fieldAddr rfl fa293_3 rfl) ?_
 refine WL_val rfl rfl rfl (R_fieldAddr rfl fa291_0 rfl) ?_
 refine WL_val rfl rfl rfl (R_load rfl sc34 rfl (mmY) rfl) ?_
 refine WL_val rfl rfl rfl (R_len rfl Tryz.underlying34 rfl) ?_
 refine WL_val rfl rfl rfl (R_eql rfl rfl rfl) ?_
 refine WLa rfl (WL_nil (WQ_code ?_))
 refine WC_dT rfl (by omega) ?_
 refine WC_seq (WC_region (WLa rfl (WLa rfl (WL_nil (WQ_code (WC_ret ?_))))))
 refine WQ_ret rfl rfl (.cons (.tmp rfl) (.cons (.tmp rfl) .nil)) rfl (by
   exact ⟨rfl, rfl⟩) (pqY)
theorem htop_x (p bx : Nat) (oe : Option Nat) (ne ce : Nat) (te : List Value) (n : Nat) (ol : Option Nat) (nl c : Nat) (tl : List Value) (E : List El) (l : List Nat) (W : List WE) (hp : Hp W E l n) (hne : E.length = ne) (hnl : l.length = nl) (hoe : Own oe ne ce 4 (E.flatMap encEl) te) (hol : Own ol nl c 1 (ivn l) tl) (h : Nat) (hh : l[0]? = some h) : Spec Tryz.prog 153 [ptrH p] (hH p bx oe ne ce te n ol nl c tl E l) (fun r H' => r = .tuple #[.int .i64 (h : Int), .int .i64 0] ∧ H' = hH p bx oe ne ce te n ol nl c tl E l) := by
 have hpos : 0 < nl := by rw [← hnl]; exact (List.getElem?_eq_some_iff.1 hh).1
 obtain ⟨bl, rfl⟩ := hol.some_of hpos
 refine Spec.of (E := [(0, ptrH p)]) Tryz.func153 rfl (by kernel_rfl) Tryz.ntmps153 rfl rfl (fun w => ?_)
 refine WC_seq (WC_region (WLa rfl (WLa rfl (WL_nil (WQ_code (WC_seq (WC_block (WC_seq (WC_region (WLa rfl ?_))))))))))
 refine WL_do rfl rfl rfl (D_call (hzero_ok p bx _ _ _ _ _ _ _) rfl rfl rfl rfl (pqY)) ?_
 rintro _ _ ⟨_, ⟨rfl, rfl⟩, rfl⟩
 refine WLa rfl (WL_nil (WQ_code ?_))
 refine WC_F rfl ?_
 refine WC_seq (WC_region (WLa rfl (WLa rfl ?_)))
 refine WL_val rfl rfl rfl (R_fieldAddr rfl fa293_3 rfl) ?_
 refine WL_val rfl rfl rfl (R_fieldAddr rfl fa291_0 rfl) ?_
 refine WL_val rfl rfl rfl (R_load rfl sc34 rfl (mmY) rfl) ?_
 refine WL_val rfl rfl rfl (R_len rfl Tryz.underlying34 rfl) ?_
 refine WL_val rfl rfl rfl (R_eql rfl rfl rfl) ?_
 refine WLa rfl (WL_nil (WQ_code ?_))
 refine WC_dF rfl (by omega) ?_
 refine WC_skip (WQ_code (WC_seq (WC_region (WLa rfl (WLa rfl ?_)))))
 refine WL_val rfl rfl rfl (R_fieldAddr rfl fa293_3 rfl) ?_
 refine WL_val rfl rfl rfl (R_fieldAddr rfl fa291_0 rfl) ?_
 refine WL_val rfl rfl rfl (R_load rfl sc34 rfl (mmY) rfl) ?_
 refine WL_val rfl rfl rfl (R_indexAddrN rfl Tryz.underlying34 Tryz.sizeOf3 rfl rfl (by omega)) ?_
 refine WL_val rfl rfl rfl (R_load (v := .int .i64 ((h : Nat) : Int)) rfl sc3 rfl (mmY) (fm_get0 encN1 hh (j := 0) (by omega))) ?_
 refine WLa rfl (WLa rfl (WL_nil (WQ_code (WC_ret ?_))))
 refine WQ_ret rfl rfl (.cons (.tmp rfl) (.cons (.tmp rfl) .nil)) rfl (by
   exact ⟨rfl, rfl⟩) (pqY)
theorem hhas_x (p bx : Nat) (oe : Option Nat) (ne ce : Nat) (te : List Value) (n : Nat) (ol : Option Nat) (nl c : Nat) (tl : List Value) (E : List El) (l : List Nat) (W : List WE) (hp : Hp W E l n) (hne : E.length = ne) (hnl : l.length = nl) (hoe : Own oe ne ce 4 (E.flatMap encEl) te) (hol : Own ol nl c 1 (ivn l) tl) (i : Int) (d : Bool) (hd : d = true ↔ ∃ h : Nat, i = (h : Int) ∧ h ∈ l) : Spec Tryz.prog 184 [ptrH p, .int .i64 i] (hH p bx oe ne ce te n ol nl c tl E l) (fun r H' => r = .bool d ∧ H' = hH p bx oe ne ce te n ol nl c tl E l) := by
 have hout : ∀ h : Nat, i = (h : Int) → ne ≤ h → d = false := fun h e1 e2 => by
  cases d with
  | false => rfl
  | true =>
   obtain ⟨h2, e3, e4⟩ := hd.1 rfl
   exact absurd e4 (hp.below2 (by omega))
 have hneg : i < 0 → d = false := fun h0 => by
  cases d with
  | false => rfl
  | true =>
   obtain ⟨h2, e3, e4⟩ := hd.1 rfl
   omega
 refine Spec.of (E := [(0, ptrH p), (1, .int .i64 i)]) Tryz.func184 rfl (by kernel_rfl) Tryz.ntmps184 rfl rfl (fun w => ?_)
 refine WC_seq (WC_region (WLa rfl (WL_nil (WQ_code (WC_seq (WC_region (WLa rfl ?_)))))))
 refine WL_val rfl rfl rfl (R_geq rfl rfl rfl) ?_
 refine WLa rfl ?_
 refine WL_splitD (s := 7) rfl (fun c1 => ?_) (fun c1 => ?_)
 ·have h7 : i ≥ 0 := c1
  obtain ⟨h, rfl⟩ := Int.eq_ofNat_of_zero_le h7
  refine WLa rfl (WLa rfl (WLa rfl ?_))
  refine WL_val rfl rfl rfl (R_fieldAddr rfl fa293_1 rfl) ?_
  refine WL_val rfl rfl rfl (R_load rfl sc288 rfl (mmY) rfl) ?_
  refine WL_val rfl rfl rfl (R_len rfl Tryz.underlying288 rfl) ?_
  refine WL_val rfl rfl rfl (R_lss rfl rfl rfl) ?_
  refine WLa rfl (WLa rfl ?_)
  refine WL_splitD (s := 16) rfl (fun c2 => ?_) (fun c2 => ?_)
  ·have h16 : ((h : Nat) : Int) < (ne : Nat) := c2
   obtain ⟨x, hx⟩ := exE (T := E) (i := h) (by omega)
   obtain ⟨be, rfl⟩ := hoe.some_of (by omega)
   refine WLa rfl (WLa rfl ?_)
   refine WL_val rfl rfl rfl (R_fieldAddr rfl fa293_1 rfl) ?_
   refine WL_val rfl rfl rfl (R_load rfl sc288 rfl (mmY) rfl) ?_
   refine WLa rfl ?_
   refine WL_val rfl rfl rfl (R_indexAddrN rfl Tryz.underlying288 Tryz.sizeOf300 rfl rfl (by omega)) ?_
   refine WL_val rfl rfl rfl (R_fieldAddr rfl fa300_3 rfl) ?_
   refine WL_val rfl rfl rfl (R_load (v := .int .i64 x.pos) rfl sc3 rfl (mmY) (fm_get0 encEl4 hx (j := 3) (by omega))) ?_
   refine WL_val rfl rfl rfl (R_geq rfl rfl rfl) ?_
   refine WLa rfl (WLa rfl (WL_nil (WQ_code (WC_ret ?_))))
   refine WQ_ret rfl rfl (.cons (.tmp rfl) .nil) rfl (by
     exact ⟨congrArg Value.bool (by rw [Bool.eq_iff_iff, decide_eq_true_iff, hd]; exact (hp.has hx).trans ⟨fun e => ⟨h, rfl, e⟩, fun ⟨h2, e1, e2⟩ => by obtain rfl : h = h2 := (by omega); exact e2⟩), rfl⟩) (pqY)
  ·have h16 : ¬ ((h : Nat) : Int) < (ne : Nat) := c2
   refine WL_skip rfl rfl rfl ?_
   refine WL_skip rfl rfl rfl ?_
   refine WL_skip rfl rfl rfl ?_
   refine WL_skip rfl rfl rfl ?_
   refine WL_skip rfl rfl rfl ?_
   refine WL_skip rfl rfl rfl ?_
   refine WL_skip rfl rfl rfl ?_
   refine WL_skip rfl rfl rfl ?_
   refine WL_skip rfl rfl rfl ?_
   refine WLa rfl (WLa rfl (WL_nil (WQ_code (WC_ret ?_))))
   refine WQ_ret rfl rfl (.cons (.tmp rfl) .nil) rfl (by
     exact ⟨by rw [hout h rfl (by omega)]; rfl, rfl⟩) (pqY)
 ·have h7 : ¬ i ≥ 0 := c1
  refine WL_skip rfl rfl rfl ?_
  refine WL_skip rfl rfl rfl ?_
  refine WL_skip rfl rfl rfl ?_
  refine WL_skip rfl rfl rfl ?_
  refine WL_skip rfl rfl rfl ?_
  refine WL_skip rfl rfl rfl ?_
  refine WL_skip rfl rfl rfl ?_
  refine WLa rfl (WLa rfl ?_)
  refine WL_skip rfl rfl rfl ?_
  refine WL_skip rfl rfl rfl ?_
  refine WL_skip rfl rfl rfl ?_
  refine WL_skip rfl rfl rfl ?_
  refine WL_skip rfl rfl rfl ?_
  refine WL_skip rfl rfl rfl ?_
  refine WL_skip rfl rfl rfl ?_
  refine WL_skip rfl rfl rfl ?_
  refine WL_skip rfl rfl rfl ?_
  refine WLa rfl (WLa rfl (WL_nil (WQ_code (WC_ret ?_))))
  refine WQ_ret rfl rfl (.cons (.tmp rfl) .nil) rfl (by
    exact ⟨by rw [hneg (by omega)]; rfl, rfl⟩) (pqY)
theorem hget_none (p bx : Nat) (oe : Option Nat) (ne ce : Nat) (te : List Value) (n : Nat) (ol : Option Nat) (nl c : Nat) (tl : List Value) (E : List El) (l : List Nat) (W : List WE) (hp : Hp W E l n) (hne : E.length = ne) (hnl : l.length = nl) (hoe : Own oe ne ce 4 (E.flatMap encEl) te) (hol : Own ol nl c 1 (ivn l) tl) (i : Int) (hd : ∀ h : Nat, i = (h : Int) → h ∉ l) : Spec Tryz.prog 154 [ptrH p, .int .i64 i] (hH p bx oe ne ce te n ol nl c tl E l) (fun r H' => r = .tuple #[.int .u64 0, .int .i64 0, .int .i64 9] ∧ H' = hH p bx oe ne ce te n ol nl c tl E l) := by
 refine Spec.of (E := [(0, ptrH p), (1, .int .i64 i)]) Tryz.func154 rfl (by kernel_rfl) Tryz.ntmps154 rfl rfl (fun w => ?_)
 refine WC_seq (WC_region (WLa rfl (WLa rfl (WLa rfl (WL_nil (WQ_code (WC_seq (WC_block (WC_seq (WC_region (WLa rfl ?_)))))))))))
 refine WL_do rfl rfl rfl (D_call (hzero_ok p bx _ _ _ _ _ _ _) rfl rfl rfl rfl (pqY)) ?_
 rintro _ _ ⟨_, ⟨rfl, rfl⟩, rfl⟩
 refine WLa rfl (WL_nil (WQ_code ?_))
 refine WC_F rfl ?_
 refine WC_seq (WC_region (WLa rfl (WLa rfl ?_)))
 refine WL_do rfl rfl rfl (D_call (hhas_x p bx oe ne ce te n ol nl c tl E l W hp hne hnl hoe hol i false (by simp; exact fun h e => hd h e)) rfl rfl rfl rfl (pqY)) ?_
 rintro _ _ ⟨_, ⟨rfl, rfl⟩, rfl⟩
 refine WL_val rfl rfl rfl (R_not rfl rfl) ?_
 refine WLa rfl (WL_nil (WQ_code ?_))
 refine WC_T rfl ?_
 refine WC_seq (WC_region (WLa rfl (WLa rfl (WLa rfl (WL_nil (WQ_code (WC_ret ?_)))))))
 refine WQ_ret rfl rfl (.cons (.tmp rfl) (.cons (.tmp rfl) (.cons (.tmp rfl) .nil))) rfl (by
   exact ⟨rfl, rfl⟩) (pqY)
theorem hget_x (p bx : Nat) (oe : Option Nat) (ne ce : Nat) (te : List Value) (n : Nat) (ol : Option Nat) (nl c : Nat) (tl : List Value) (E : List El) (l : List Nat) (W : List WE) (hp : Hp W E l n) (hne : E.length = ne) (hnl : l.length = nl) (hoe : Own oe ne ce 4 (E.flatMap encEl) te) (hol : Own ol nl c 1 (ivn l) tl) (h : Nat) (hd : h ∈ l) (x : El) (hx : E[h]? = some x) : Spec Tryz.prog 154 [ptrH p, .int .i64 (h : Int)] (hH p bx oe ne ce te n ol nl c tl E l) (fun r H' => r = .tuple #[.int .u64 (x.key : Int), .int .i64 x.value, .int .i64 0] ∧ H' = hH p bx oe ne ce te n ol nl c tl E l) := by
 have hlt := (List.getElem?_eq_some_iff.1 hx).1
 obtain ⟨be, rfl⟩ := hoe.some_of (by omega)
 refine Spec.of (E := [(0, ptrH p), (1, .int .i64 (h : Int))]) Tryz.func154 rfl (by kernel_rfl) Tryz.ntmps154 rfl rfl (fun w => ?_)
 refine WC_seq (WC_region (WLa rfl (WLa rfl (WLa rfl (WL_nil (WQ_code (WC_seq (WC_block (WC_seq (WC_region (WLa rfl ?_)))))))))))
 refine WL_do rfl rfl rfl (D_call (hzero_ok p bx _ _ _ _ _ _ _) rfl rfl rfl rfl (pqY)) ?_
 rintro _ _ ⟨_, ⟨rfl, rfl⟩, rfl⟩
 refine WLa rfl (WL_nil (WQ_code ?_))
 refine WC_F rfl ?_
 refine WC_seq (WC_region (WLa rfl (WLa rfl ?_)))
 refine WL_do rfl rfl rfl (D_call (hhas_x p bx (some be) ne ce te n ol nl c tl E l W hp hne hnl hoe hol (h : Int) true ⟨fun _ => ⟨h, rfl, hd⟩, fun _ => rfl⟩) rfl rfl rfl rfl (pqY)) ?_
 rintro _ _ ⟨_, ⟨rfl, rfl⟩, rfl⟩
 refine WL_val rfl rfl rfl (R_not rfl rfl) ?_
 refine WLa rfl (WL_nil (WQ_code ?_))
 refine WC_F rfl ?_
 refine WC_skip (WQ_code (WC_seq (WC_region (WLa rfl (WLa rfl ?_)))))
 refine WL_val rfl rfl rfl (R_fieldAddr rfl fa293_1 rfl) ?_
 refine WL_val rfl rfl rfl (R_load rfl sc288 rfl (mmY) rfl) ?_
 refine WLa rfl ?_
 refine WL_val rfl rfl rfl (R_indexAddrN rfl Tryz.underlying288 Tryz.sizeOf300 rfl rfl (by omega)) ?_
 refine WL_val rfl rfl rfl (R_loadA (vs := encEl x) rfl ag300 rfl (mmY) rfl (fm_at0 encEl4 hx (j := 0) (vs := encEl x) (fun j v h => by rw [Nat.zero_add]; exact h) (Nat.le_refl 4))) ?_
 refine WL_do rfl rfl rfl (D_alloc rfl zv300) ?_
 rintro _ _ ⟨b1, rfl, rfl⟩
 refine WL_do0 rfl rfl (D_store (vs := [_, _, _, _]) rfl Tryz.sizeOf300 rfl rfl rfl rfl rfl (plY) (Nat.le_of_ble_eq_true rfl)) ?_
 rintro _ _ rfl
 refine WL_nil (WQ_code (WC_seq ?_))
 refine WC_draw _ [(0, true), (1, true), (2, true), (3, true), (4, true), (5, true), (6, true)] followsMixed rfl rfl (by kernel_rfl) .all ?_
 refine WM_val rfl rfl rfl rfl (R_fieldAddr rfl fa300_0 rfl) ?_
 refine WM_val rfl rfl rfl rfl (R_load rfl sc28 rfl (mmY) rfl) ?_
 refine WM_val rfl rfl rfl rfl (R_fieldAddr rfl fa300_1 rfl) ?_
 refine WM_val rfl rfl rfl rfl (R_load rfl sc3 rfl (mmY) rfl) ?_
 refine WMa rfl (WMa rfl (WMa rfl (WM_nil (WQ_code (WC_ret ?_)))))
 refine WQ_ret rfl rfl (.cons (.tmp rfl) (.cons (.tmp rfl) (.cons (.tmp rfl) .nil))) rfl (by
   exact ⟨rfl, rfl⟩) (pqY)
theorem hpf_ok (x : El) : Spec Tryz.prog 187 [.agg #[.int .u64 (x.key : Int), .int .i64 x.value, .int .u64 (x.seq : Int), .int .i64 x.pos]] [] (fun r H' => r = .bool (decide (x.pos < 0)) ∧ H' = []) := by
 refine Spec.of (E := [(0, .agg #[.int .u64 (x.key : Int), .int .i64 x.value, .int .u64 (x.seq : Int), .int .i64 x.pos])]) Tryz.func187 rfl (by kernel_rfl) Tryz.ntmps187 rfl rfl (fun w => ?_)
 refine WC_seq (WC_region ?_)
 refine WL_do rfl rfl rfl (D_box (cs := [_, _, _, _]) rfl rfl rfl) ?_
 rintro _ _ ⟨b1, rfl, rfl⟩
 refine WLa rfl (WL_nil (WQ_code (WC_seq (WC_region ?_))))
 refine WL_val rfl rfl rfl (R_fieldAddr rfl fa300_3 rfl) ?_
 refine WL_val rfl rfl rfl (R_load rfl sc3 rfl (mmY) rfl) ?_
 refine WL_val rfl rfl rfl (R_lss rfl rfl rfl) ?_
 refine WLa rfl (WL_nil (WQ_code (WC_ret ?_)))
 refine WQ_ret rfl rfl (.cons (.tmp rfl) .nil) rfl (by
   exact ⟨rfl, rfl⟩) (pqY)
theorem fr_stop {E : List El} {k : Nat} {x : El} (hx : E[k]? = some x) (hk : k ≤ fr E) (h : x.pos < 0) : fr E = k := by
 rcases Nat.lt_or_ge k (fr E) with h1 | h1
 ·have := List.not_of_lt_findIdx h1
  obtain ⟨hlt, rfl⟩ := List.getElem?_eq_some_iff.1 hx
  simp at this
  omega
 ·omega
theorem fr_next {E : List El} {k : Nat} {x : El} (hx : E[k]? = some x) (hk : k ≤ fr E) (h : ¬ x.pos < 0) : k + 1 ≤ fr E := by
 rcases Nat.lt_or_ge k (fr E) with h1 | h1
 ·exact h1
 ·exfalso
  obtain ⟨hlt, rfl⟩ := List.getElem?_eq_some_iff.1 hx
  have e : k = fr E := by omega
  subst e
  have := List.findIdx_getElem (w := hlt)
  simp only [decide_eq_true_eq] at this
  exact h this
theorem hidx_ok (oe : Option Nat) (ne ce : Nat) (te : List Value) (E : List El) (hne : E.length = ne) (hoe : Own oe ne ce 4 (E.flatMap encEl) te) : Spec Tryz.prog 186 [slV oe ne ce, .func (.func 187) #[] #[]] [⟨oe, cl (E.flatMap encEl ++ te) 300⟩]
  (fun r H' => ∃ i : Int, r = .int .i64 i ∧ (i = (fr E : Int) ∧ fr E < ne ∨ i = -1 ∧ fr E = ne) ∧ H' = [⟨oe, cl (E.flatMap encEl ++ te) 300⟩]) := by
 have hbg := hoe.big
 have hle := hoe.le
 refine Spec.of (E := [(0, slV oe ne ce), (1, .func (.func 187) #[] #[])]) Tryz.func186 rfl (by kernel_rfl) Tryz.ntmps186 rfl rfl (fun w => ?_)
 refine WC_seq (WC_region (WLa rfl (WL_nil (WQ_code (WC_seq (WC_seq (WC_region (WLa rfl ?_))))))))
 refine WL_val rfl rfl rfl (R_len rfl Tryz.underlying288 rfl) ?_
 refine WLa rfl (WL_nil (WQ_code (WC_block ?_)))
 refine WC_loopF (G := Nat) [4, 5, 8, 9, 10, 11, 12, 13, 14, 15, 16, 17, 18] (fun j => j ≤ ne ∧ j ≤ fr E) (fun j => [(8, .int .i64 (j : Int))]) (fun j => []) (fun j => ne - j) (0) (⟨Nat.zero_le _, Nat.zero_le _⟩) leZ (pqY) ?_
 rintro j ⟨hj, hjf⟩
 refine WC_seq (WC_region ?_)
 refine WL_val rfl rfl rfl (R_lss rfl rfl rfl) ?_
 refine WL_nil (WQ_code (WC_seq ?_))
 refine WC_dec rfl (fun c1 => ?_) (fun c1 => ?_)
 ·refine WC_skip (WQ_code (WC_seq (WC_block (WC_seq (WC_region (WLa rfl (WLa rfl (WL_nil (WQ_code (WC_seq (WC_region (WLa rfl (WLa rfl (WLa rfl ?_))))))))))))))
  obtain ⟨x, hx⟩ := exE (T := E) (i := j) (by omega)
  obtain ⟨be, hbe⟩ := hoe.some_of (by omega)
  rw [hbe]
  refine WL_val rfl rfl rfl (R_indexAddrN rfl Tryz.underlying288 Tryz.sizeOf300 rfl rfl (by omega)) ?_
  refine WL_val rfl rfl rfl (R_loadA (vs := encEl x) rfl ag300 rfl (mmY) rfl (fm_at0 encEl4 hx (j := 0) (vs := encEl x) (fun j v h => by rw [Nat.zero_add]; exact h) (Nat.le_refl 4))) ?_
  refine WL_do rfl rfl rfl (D_call (hpf_ok x) rfl rfl rfl rfl (pqY)) ?_
  rintro _ _ ⟨_, ⟨rfl, rfl⟩, rfl⟩
  refine WL_nil (WQ_code ?_)
  refine WC_dec rfl (fun c2 => ?_) (fun c2 => ?_)
  ·have hlt : x.pos < 0 := c2
   refine WC_seq (WC_region (WLa rfl (WLa rfl (WL_nil (WQ_code (WC_ret ?_))))))
   refine WQ_ret rfl rfl (.cons (.tmp rfl) .nil) rfl (by
     exact ⟨_, rfl, .inl ⟨by rw [fr_stop hx hjf hlt], by rw [fr_stop hx hjf hlt]; omega⟩, rfl⟩) (pqY)
  ·have hge : ¬ x.pos < 0 := c2
   refine WC_skip (WQ_code (WC_region ?_))
   refine WL_val rfl rfl rfl (R_add rfl rfl rfl (by omega)) ?_
   refine WLa rfl (WL_nil ?_)
   refine WQ_nextF (j + 1) (⟨by omega, fr_next hx hjf hge⟩) (by omega) leZ (psZ) rfl (pqY)
 ·refine WC_exit (WQ_code (WC_seq (WC_region (WLa rfl (WL_nil (WQ_code (WC_ret ?_)))))))
  refine WQ_ret rfl rfl (.cons (.tmp rfl) .nil) rfl (by
    exact ⟨_, rfl, .inr ⟨rfl, by have := fr_le (E := E); omega⟩, rfl⟩) (pqY)
theorem hpush_x (p bx : Nat) (oe : Option Nat) (ne ce : Nat) (te : List Value) (n : Nat) (ol : Option Nat) (nl c : Nat) (tl : List Value) (E : List El) (l : List Nat) (W : List WE) (hp : Hp W E l n) (hne : E.length = ne) (hnl : l.length = nl) (hoe : Own oe ne ce 4 (E.flatMap encEl) te) (hol : Own ol nl c 1 (ivn l) tl) (h1 : nl < 1024) (hb : n + 1 < 9000000000000000000) (k : Nat) (v : Int) : Spec Tryz.prog 152 [ptrH p, .int .u64 (k : Int), .int .i64 v] (hH p bx oe ne ce te n ol nl c tl E l)
  (fun r H' => ∃ g : HM, r = .tuple #[.int .i64 (fr E : Int), .int .i64 0] ∧ H' = gH g ∧ g.p = p ∧ g.n = n + 1 ∧ HIs (W ++ [⟨fr E, v, k, n + 1⟩]) g) := by
 have hec := hp.ecap
 subst hnl
 refine Spec.of (E := [(0, ptrH p), (1, .int .u64 (k : Int)), (2, .int .i64 v)]) Tryz.func152 rfl (by kernel_rfl) Tryz.ntmps152 rfl rfl (fun w => ?_)
 refine WC_seq (WC_region (WLa rfl (WLa rfl (WL_nil (WQ_code (WC_seq (WC_block (WC_seq (WC_region (WLa rfl ?_))))))))))
 refine WL_do rfl rfl rfl (D_call (hzero_ok p bx _ _ _ _ _ _ _) rfl rfl rfl rfl (pqY)) ?_
 rintro _ _ ⟨_, ⟨rfl, rfl⟩, rfl⟩
 refine WLa rfl (WL_nil (WQ_code ?_))
 refine WC_F rfl ?_
 refine WC_seq (WC_region (WLa rfl (WLa rfl ?_)))
 refine WL_val rfl rfl rfl (R_fieldAddr rfl fa293_3 rfl) ?_
 refine WL_val rfl rfl rfl (R_fieldAddr rfl fa291_0 rfl) ?_
 refine WL_val rfl rfl rfl (R_load rfl sc34 rfl (mmY) rfl) ?_
 refine WL_val rfl rfl rfl (R_len rfl Tryz.underlying34 rfl) ?_
 refine WL_val rfl rfl rfl (R_geq rfl rfl rfl) ?_
 refine WLa rfl (WL_nil (WQ_code ?_))
 refine WC_dF rfl (by omega) ?_
 refine WC_skip (WQ_code (WC_seq (WC_region (WLa rfl (WLa rfl ?_)))))
 refine WL_val rfl rfl rfl (R_fieldAddr rfl fa293_1 rfl) ?_
 refine WL_val rfl rfl rfl (R_load rfl sc288 rfl (mmY) rfl) ?_
 refine WL_do rfl rfl rfl (D_call (hidx_ok oe ne ce te E hne hoe) rfl rfl rfl rfl (pqY)) ?_
 rintro _ _ ⟨_, ⟨i, rfl, hi, rfl⟩, rfl⟩
 refine WLa rfl (WL_nil (WQ_code (WC_seq (WC_seq (WC_region (WLa rfl ?_))))))
 refine WL_val rfl rfl rfl (R_lss rfl rfl rfl) ?_
 refine WL_nil (WQ_code ?_)
 refine WC_dec rfl (fun c1 => ?_) (fun c1 => ?_)
 ·have hfe : fr E = ne := by omega
  refine WC_seq (WC_region (WLa rfl (WLa rfl ?_)))
  refine WL_val rfl rfl rfl (R_fieldAddr rfl fa293_1 rfl) ?_
  refine WL_val rfl rfl rfl (R_load rfl sc288 rfl (mmY) rfl) ?_
  refine WL_val rfl rfl rfl (R_len rfl Tryz.underlying288 rfl) ?_
  refine WLa rfl (WL_nil (WQ_code (WC_region (WLa rfl (WLa rfl (WLa rfl ?_))))))
  refine WL_val rfl rfl rfl (R_fieldAddr rfl fa293_1 rfl) ?_
  refine WL_val rfl rfl rfl (R_load rfl sc288 rfl (mmY) rfl) ?_
  refine WL_val rfl rfl rfl (R_build rfl zv300 pl300 rfl rfl) ?_
  refine WL_do rfl rfl rfl (D_buildSlice rfl si288 rfl rfl rfl) ?_
  rintro _ _ ⟨b1, rfl, rfl⟩
  refine WL_do rfl rfl rfl (D_append rfl si288 rfl (hoe) (plY) rfl (mmY) ((atZ : At _ 0 [_, _, _, _])) (rfl) (rfl) (by omega) (by omega)) ?_
  rintro _ _ ⟨ob2, cap2, tl2, rfl, own2, rfl⟩
  obtain ⟨be, rfl⟩ := own2.some_of (by omega)
  rw [show E.flatMap encEl ++ [Value.int .u64 0, .int .i64 0, .int .u64 0, .int .i64 0] = (E ++ [(⟨0, 0, 0, 0⟩ : El)]).flatMap encEl from by rw [List.flatMap_append]; rfl] at own2 ⊢
  refine WLa rfl ?_
  refine WL_val rfl rfl rfl (R_fieldAddr rfl fa293_1 rfl) ?_
  refine WL_do0 rfl rfl (D_store (vs := [_]) rfl Tryz.sizeOf288 rfl rfl rfl rfl rfl (plY) (Nat.le_of_ble_eq_true rfl)) ?_
  rintro _ _ rfl
  refine WL_nil (WQ_code (WC_seq (WC_region ?_)))
  rw [show ((ne : Nat) : Int) = ((fr E : Nat) : Int) from by omega]
  have hx : (E ++ [(⟨0, 0, 0, 0⟩ : El)])[fr E]? = some ⟨0, 0, 0, 0⟩ := by rw [hfe, ← hne]; simp
  obtain ⟨st1, ho1, hs1, _⟩ := hp.push0 k v (E1 := E ++ [⟨0, 0, 0, 0⟩]) (.inr ⟨by omega, rfl⟩) (by simp; omega) (by omega) hb
  refine WLa rfl (WLa rfl ?_)
  refine WL_val rfl rfl rfl (R_fieldAddr rfl fa293_2 rfl) ?_
  refine WL_val rfl rfl rfl (R_load rfl sc27 rfl (mmY) rfl) ?_
  refine WL_val rfl rfl rfl (R_addR (r := ((n + 1 : Nat) : Int)) rfl rfl rfl (by rw [w64 ⟨by omega, by omega⟩]; omega)) ?_
  refine WLa rfl ?_
  refine WL_val rfl rfl rfl (R_fieldAddr rfl fa293_2 rfl) ?_
  refine WL_do0 rfl rfl (D_store (vs := [_]) rfl Tryz.sizeOf27 rfl rfl rfl rfl rfl (plY) (Nat.le_of_ble_eq_true rfl)) ?_
  rintro _ _ rfl
  refine WL_nil (WQ_code (WC_seq ?_))
  refine WC_drawR [⟨some be, _⟩] [(0, true), (1, true), (2, true), (3, true), (4, true), (5, true), (6, true), (7, true), (8, true), (9, true), (10, true), (11, true), (12, true), (13, false)] followsMixed rfl rfl (by kernel_rfl) (pqY) ?_
  refine WMa rfl (WMa rfl ?_)
  refine WM_val rfl rfl rfl rfl (R_fieldAddr rfl fa293_1 rfl) ?_
  refine WM_val rfl rfl rfl rfl (R_load rfl sc288 rfl (mmY) rfl) ?_
  refine WMa rfl (WMa rfl (WMa rfl (WMa rfl (WMa rfl ?_))))
  refine WM_val rfl rfl rfl rfl (R_fieldAddr rfl fa293_2 rfl) ?_
  refine WM_val rfl rfl rfl rfl (R_load rfl sc27 rfl (mmY) rfl) ?_
  refine WM_val rfl rfl rfl rfl (R_build rfl zv300 pl300 rfl rfl) ?_
  refine WM_val rfl rfl rfl rfl (R_indexAddrN rfl Tryz.underlying288 Tryz.sizeOf300 rfl rfl (by omega)) ?_
  refine WM_do0 rfl rfl rfl (D_store (vs := [_, _, _, _]) rfl Tryz.sizeOf300 rfl rfl rfl rfl rfl (plY) (by exact fm_room0 encEl4 (show fr E < (E ++ [(⟨0, 0, 0, 0⟩ : El)]).length by first | omega | (simp; omega)) (j := 0) (by omega))) ?_
  rintro _ _ rfl
  refine ⟨⟨_, pqY⟩, ?_⟩
  have hput := fm_put0 encEl4 (⟨k, v, n + 1, 0⟩ : El) hx (j := 0) (vs := [.int .u64 (k : Int), .int .i64 v, .int .u64 ((n + 1 : Nat) : Int), .int .i64 0]) (by simp) rfl (tl := tl2)
  rw [Nat.add_zero] at hput
  rw [hput]
  refine WM_nil (WQ_code (WC_seq (WC_region (WLa rfl (WLa rfl ?_)))))
  refine WL_val rfl rfl rfl (R_fieldAddr rfl fa293_3 rfl) ?_
  refine WLa rfl ?_
  refine WL_do rfl rfl rfl (D_call (qadd_ok p bx be (ne + 1) cap2 tl2 (n + 1) ol c tl ((E ++ [(⟨0, 0, 0, 0⟩ : El)]).set (fr E) ⟨k, v, n + 1, 0⟩) l st1 ho1 (by simp [hne]) hol (by omega) (fr E) _ hs1 hp.fr_out) rfl rfl rfl rfl (pqY)) ?_
  rintro _ _ ⟨_, ⟨E', l', bl, c', tl', rfl, rfl, own', s', p', o'⟩, rfl⟩
  refine WL_nil (WQ_code (WC_seq (WC_region (WLa rfl (WLa rfl (WLa rfl (WL_nil (WQ_code (WC_ret ?_)))))))))
  refine WQ_ret rfl rfl (.cons (.tmp rfl) (.cons (.tmp rfl) .nil)) rfl (by
    exact ⟨⟨p, bx, some be, ne + 1, cap2, tl2, n + 1, some bl, l.length + 1, c', tl', E', l'⟩, rfl, rfl, rfl, rfl, ⟨hp.push k v (E1 := (E ++ [(⟨0, 0, 0, 0⟩ : El)])) (.inr ⟨by omega, rfl⟩) (by first | omega | (simp; omega)) (by omega) hb s' p' (by rw [p'.length_eq, List.length_append, List.length_singleton]; exact o'.cong (fun j _ => by rw [rkl, rkl, s'.rk])), by dsimp only; rw [s'.len]; simp [hne], by dsimp only; rw [p'.length_eq]; simp, own2.like (by simp only [fm_length encEl4, s'.len, List.length_set]), own'⟩⟩) (pqY)
 ·have hfe : fr E < ne := by omega
  obtain rfl : i = (fr E : Int) := by omega
  obtain ⟨be, rfl⟩ := hoe.some_of (by omega)
  obtain ⟨x, hx⟩ := exE (T := E) (i := fr E) (by omega)
  obtain ⟨st1, ho1, hs1, _⟩ := hp.push0 k v (E1 := E) (.inl rfl) (by omega) (by omega) hb
  refine WC_skip (WQ_code (WC_seq (WC_region (WLa rfl (WLa rfl ?_)))))
  refine WL_val rfl rfl rfl (R_fieldAddr rfl fa293_2 rfl) ?_
  refine WL_val rfl rfl rfl (R_load rfl sc27 rfl (mmY) rfl) ?_
  refine WL_val rfl rfl rfl (R_addR (r := ((n + 1 : Nat) : Int)) rfl rfl rfl (by rw [w64 ⟨by omega, by omega⟩]; omega)) ?_
  refine WLa rfl ?_
  refine WL_val rfl rfl rfl (R_fieldAddr rfl fa293_2 rfl) ?_
  refine WL_do0 rfl rfl (D_store (vs := [_]) rfl Tryz.sizeOf27 rfl rfl rfl rfl rfl (plY) (Nat.le_of_ble_eq_true rfl)) ?_
  rintro _ _ rfl
  refine WL_nil (WQ_code (WC_seq ?_))
  refine WC_drawR [⟨some be, _⟩] [(0, true), (1, true), (2, true), (3, true), (4, true), (5, true), (6, true), (7, true), (8, true), (9, true), (10, true), (11, true), (12, true), (13, false)] followsMixed rfl rfl (by kernel_rfl) (pqY) ?_
  refine WMa rfl (WMa rfl ?_)
  refine WM_val rfl rfl rfl rfl (R_fieldAddr rfl fa293_1 rfl) ?_
  refine WM_val rfl rfl rfl rfl (R_load rfl sc288 rfl (mmY) rfl) ?_
  refine WMa rfl (WMa rfl (WMa rfl (WMa rfl (WMa rfl ?_))))
  refine WM_val rfl rfl rfl rfl (R_fieldAddr rfl fa293_2 rfl) ?_
  refine WM_val rfl rfl rfl rfl (R_load rfl sc27 rfl (mmY) rfl) ?_
  refine WM_val rfl rfl rfl rfl (R_build rfl zv300 pl300 rfl rfl) ?_
  refine WM_val rfl rfl rfl rfl (R_indexAddrN rfl Tryz.underlying288 Tryz.sizeOf300 rfl rfl (by omega)) ?_
  refine WM_do0 rfl rfl rfl (D_store (vs := [_, _, _, _]) rfl Tryz.sizeOf300 rfl rfl rfl rfl rfl (plY) (by exact fm_room0 encEl4 (show fr E < E.length by first | omega | (simp; omega)) (j := 0) (by omega))) ?_
  rintro _ _ rfl
  refine ⟨⟨_, pqY⟩, ?_⟩
  have hput := fm_put0 encEl4 (⟨k, v, n + 1, 0⟩ : El) hx (j := 0) (vs := [.int .u64 (k : Int), .int .i64 v, .int .u64 ((n + 1 : Nat) : Int), .int .i64 0]) (by simp) rfl (tl := te)
  rw [Nat.add_zero] at hput
  rw [hput]
  refine WM_nil (WQ_code (WC_seq (WC_region (WLa rfl (WLa rfl ?_)))))
  refine WL_val rfl rfl rfl (R_fieldAddr rfl fa293_3 rfl) ?_
  refine WLa rfl ?_
  refine WL_do rfl rfl rfl (D_call (qadd_ok p bx be ne ce te (n + 1) ol c tl (E.set (fr E) ⟨k, v, n + 1, 0⟩) l st1 ho1 (by simp [hne]) hol (by omega) (fr E) _ hs1 hp.fr_out) rfl rfl rfl rfl (pqY)) ?_
  rintro _ _ ⟨_, ⟨E', l', bl, c', tl', rfl, rfl, own', s', p', o'⟩, rfl⟩
  refine WL_nil (WQ_code (WC_seq (WC_region (WLa rfl (WLa rfl (WLa rfl (WL_nil (WQ_code (WC_ret ?_)))))))))
  refine WQ_ret rfl rfl (.cons (.tmp rfl) (.cons (.tmp rfl) .nil)) rfl (by
    exact ⟨⟨p, bx, some be, ne, ce, te, n + 1, some bl, l.length + 1, c', tl', E', l'⟩, rfl, rfl, rfl, rfl, ⟨hp.push k v (E1 := E) (.inl rfl) (by first | omega | (simp; omega)) (by omega) hb s' p' (by rw [p'.length_eq, List.length_append, List.length_singleton]; exact o'.cong (fun j _ => by rw [rkl, rkl, s'.rk])), by dsimp only; rw [s'.len]; simp [hne], by dsimp only; rw [p'.length_eq]; simp, hoe.like (by simp only [fm_length encEl4, s'.len, List.length_set]), own'⟩⟩) (pqY)
end Go.Proofs.YtbkdebnkoidicaaGreat
end
section
set_option linter.unusedVariables false
set_option maxRecDepth 20000
set_option maxHeartbeats 4000000
namespace Go.Proofs.YtbkdebnkoidicaaGreat
theorem oneN (l : List Nat) : (ivn l).all Value.oneCell' = true := fm_all (fun _ => rfl) l
theorem oneEl (E : List El) : (E.flatMap encEl).all Value.oneCell' = true := fm_all (fun _ => rfl) E
theorem hce_none : Spec Tryz.prog 204 [.slice none 0 0] [⟨none, cl [] 300⟩] (fun r H' => r = .slice none 0 0 ∧ H' = [⟨none, cl [] 300⟩, ⟨none, cl [] 300⟩]) := by
 refine Spec.of (E := [(0, .slice none 0 0)]) Tryz.func204 rfl (by kernel_rfl) Tryz.ntmps204 rfl rfl (fun w => ?_)
 refine WC_seq (WC_region (WLa rfl (WL_nil (WQ_code (WC_seq (WC_seq (WC_region (WLa rfl ?_))))))))
 refine WL_val rfl rfl rfl (R_sliceEqNil rfl Tryz.underlying288 rfl) ?_
 refine WL_nil (WQ_code ?_)
 refine WC_T rfl ?_
 refine WC_seq (WC_region (WLa rfl (WL_nil (WQ_code (WC_ret ?_)))))
 refine WQ_none 300 ?_
 refine WQ_ret rfl rfl (.cons (.tmp rfl) .nil) rfl (by
   exact ⟨rfl, rfl⟩) (pqY)
theorem hce_some (b n c : Nat) (xs tl : List Value) (own : Own (some b) n c 4 xs tl) (h1 : xs.all Value.oneCell' = true) (hb : n ≤ 2000) : Spec Tryz.prog 204 [slV (some b) n c] [⟨some b, cl (xs ++ tl) 300⟩]
  (fun r H' => ∃ o2 c2 t2, r = slV o2 n c2 ∧ Own o2 n c2 4 xs t2 ∧ H' = [⟨o2, cl (xs ++ t2) 300⟩, ⟨some b, cl (xs ++ tl) 300⟩]) := by
 refine Spec.of (E := [(0, slV (some b) n c)]) Tryz.func204 rfl (by kernel_rfl) Tryz.ntmps204 rfl rfl (fun w => ?_)
 refine WC_seq (WC_region (WLa rfl (WL_nil (WQ_code (WC_seq (WC_seq (WC_region (WLa rfl ?_))))))))
 refine WL_val rfl rfl rfl (R_sliceEqNil rfl Tryz.underlying288 rfl) ?_
 refine WL_nil (WQ_code ?_)
 refine WC_F rfl ?_
 refine WC_skip (WQ_code (WC_seq (WC_region ?_)))
 refine WL_do rfl rfl rfl (D_buildSlice rfl si288 rfl rfl rfl) ?_
 rintro _ _ ⟨b1, rfl, rfl⟩
 refine WLa rfl ?_
 refine WL_do rfl rfl rfl (D_append rfl si288 rfl ((⟨by simp, by simp, by simp, by simp, fun h => by cases h⟩ : Own (some b1) 0 0 4 [] [])) (plY) rfl (mmY) ((fun j v hj => by rw [Nat.zero_add, List.getElem?_append_left (List.getElem?_eq_some_iff.1 hj).1]; exact hj : At (xs ++ tl) 0 xs)) (own.len) (h1) (by omega) (by omega)) ?_
 rintro _ _ ⟨ob2, cap2, tl2, rfl, own2, rfl⟩
 rw [Nat.zero_add, List.nil_append] at own2 ⊢
 refine WLa rfl (WL_nil (WQ_code (WC_ret ?_)))
 refine WQ_ret rfl rfl (.cons (.tmp rfl) .nil) rfl (by
   exact ⟨ob2, cap2, tl2, rfl, own2, rfl⟩) (pqY)
theorem hci_none : Spec Tryz.prog 178 [.slice none 0 0] [⟨none, cl [] 3⟩] (fun r H' => r = .slice none 0 0 ∧ H' = [⟨none, cl [] 3⟩, ⟨none, cl [] 3⟩]) := by
 refine Spec.of (E := [(0, .slice none 0 0)]) Tryz.func178 rfl (by kernel_rfl) Tryz.ntmps178 rfl rfl (fun w => ?_)
 refine WC_seq (WC_region (WLa rfl (WL_nil (WQ_code (WC_seq (WC_seq (WC_region (WLa rfl ?_))))))))
 refine WL_val rfl rfl rfl (R_sliceEqNil rfl Tryz.underlying34 rfl) ?_
 refine WL_nil (WQ_code ?_)
 refine WC_T rfl ?_
 refine WC_seq (WC_region (WLa rfl (WL_nil (WQ_code (WC_ret ?_)))))
 refine WQ_none 3 ?_
 refine WQ_ret rfl rfl (.cons (.tmp rfl) .nil) rfl (by
   exact ⟨rfl, rfl⟩) (pqY)
theorem hci_some (b n c : Nat) (xs tl : List Value) (own : Own (some b) n c 1 xs tl) (h1 : xs.all Value.oneCell' = true) (hb : n ≤ 1000000) : Spec Tryz.prog 178 [slV (some b) n c] [⟨some b, cl (xs ++ tl) 3⟩]
  (fun r H' => ∃ o2 c2 t2, r = slV o2 n c2 ∧ Own o2 n c2 1 xs t2 ∧ H' = [⟨o2, cl (xs ++ t2) 3⟩, ⟨some b, cl (xs ++ tl) 3⟩]) := by
 refine Spec.of (E := [(0, slV (some b) n c)]) Tryz.func178 rfl (by kernel_rfl) Tryz.ntmps178 rfl rfl (fun w => ?_)
 refine WC_seq (WC_region (WLa rfl (WL_nil (WQ_code (WC_seq (WC_seq (WC_region (WLa rfl ?_))))))))
 refine WL_val rfl rfl rfl (R_sliceEqNil rfl Tryz.underlying34 rfl) ?_
 refine WL_nil (WQ_code ?_)
 refine WC_F rfl ?_
 refine WC_skip (WQ_code (WC_seq (WC_region ?_)))
 refine WL_do rfl rfl rfl (D_buildSlice rfl si34 rfl rfl rfl) ?_
 rintro _ _ ⟨b1, rfl, rfl⟩
 refine WLa rfl ?_
 refine WL_do rfl rfl rfl (D_append rfl si34 rfl ((⟨by simp, by simp, by simp, by simp, fun h => by cases h⟩ : Own (some b1) 0 0 1 [] [])) (plY) rfl (mmY) ((fun j v hj => by rw [Nat.zero_add, List.getElem?_append_left (List.getElem?_eq_some_iff.1 hj).1]; exact hj : At (xs ++ tl) 0 xs)) (own.len) (h1) (by omega) (by omega)) ?_
 rintro _ _ ⟨ob2, cap2, tl2, rfl, own2, rfl⟩
 rw [Nat.zero_add, List.nil_append] at own2 ⊢
 refine WLa rfl (WL_nil (WQ_code (WC_ret ?_)))
 refine WQ_ret rfl rfl (.cons (.tmp rfl) .nil) rfl (by
   exact ⟨ob2, cap2, tl2, rfl, own2, rfl⟩) (pqY)
theorem Own.void {n c sz : Nat} {xs tl : List Value} (h : Own none n c sz xs tl) : n = 0 ∧ c = 0 ∧ xs = [] ∧ tl = [] := by
 have h1 := h.nil rfl
 have h2 := h.le
 have h3 := h.cap
 rw [h1, Nat.zero_mul] at h3
 exact ⟨by omega, h1, List.eq_nil_of_length_eq_zero (by omega), List.eq_nil_of_length_eq_zero (by omega)⟩
theorem hce_ok (ob : Option Nat) (n c : Nat) (xs tl : List Value) (own : Own ob n c 4 xs tl) (h1 : xs.all Value.oneCell' = true) (hb : n ≤ 2000) : Spec Tryz.prog 204 [slV ob n c] [⟨ob, cl (xs ++ tl) 300⟩]
  (fun r H' => ∃ o2 c2 t2, r = slV o2 n c2 ∧ Own o2 n c2 4 xs t2 ∧ H' = [⟨o2, cl (xs ++ t2) 300⟩, ⟨ob, cl (xs ++ tl) 300⟩]) := by
 cases ob with
 | some b => exact hce_some b n c xs tl own h1 hb
 | none =>
  obtain ⟨rfl, rfl, rfl, rfl⟩ := own.void
  exact hce_none.mono fun r H' ⟨e1, e2⟩ => ⟨none, 0, [], e1, Own.empty 4, e2⟩
theorem hci_ok (ob : Option Nat) (n c : Nat) (xs tl : List Value) (own : Own ob n c 1 xs tl) (h1 : xs.all Value.oneCell' = true) (hb : n ≤ 1000000) : Spec Tryz.prog 178 [slV ob n c] [⟨ob, cl (xs ++ tl) 3⟩]
  (fun r H' => ∃ o2 c2 t2, r = slV o2 n c2 ∧ Own o2 n c2 1 xs t2 ∧ H' = [⟨o2, cl (xs ++ t2) 3⟩, ⟨ob, cl (xs ++ tl) 3⟩]) := by
 cases ob with
 | some b => exact hci_some b n c xs tl own h1 hb
 | none =>
  obtain ⟨rfl, rfl, rfl, rfl⟩ := own.void
  exact hci_none.mono fun r H' ⟨e1, e2⟩ => ⟨none, 0, [], e1, Own.empty 1, e2⟩
theorem HOk.cut {F : Nat → Nat} {m : Nat} {l l3 l4 : List Nat} {h : Nat} (o : HOk F m) (p4 : l4.Perm l3) (p3 : (l3 ++ [h]).Perm l) (hnl : l.length = m + 1) : HOk F l4.length := by
 have := p3.length_eq
 rw [List.length_append, List.length_singleton] at this
 rw [p4.length_eq, show l3.length = m from by omega]; exact o
theorem own_cut {bl : Nat} {m c : Nat} {l l3 l4 : List Nat} {h : Nat} {tl : List Value} (own : Own (some bl) (m + 1) c 1 (ivn l) tl) (p4 : l4.Perm l3) (p3 : (l3 ++ [h]).Perm l) (hnl : l.length = m + 1) : Own (some bl) m c 1 (ivn l4) (.int .i64 (h : Int) :: tl) := by
 have h1 := p3.length_eq
 have h2 := own.cap
 have h3 := own.le
 rw [List.length_append, List.length_singleton] at h1
 rw [fm_length encN1] at h2
 refine ⟨?_, ?_, by omega, own.big, fun e => by cases e⟩
 ·rw [fm_length encN1, p4.length_eq]; omega
 ·rw [fm_length encN1, p4.length_eq, List.length_cons]; omega
theorem hcopy_x (p bx : Nat) (oe : Option Nat) (ne ce : Nat) (te : List Value) (n : Nat) (ol : Option Nat) (nl c : Nat) (tl : List Value) (E : List El) (l : List Nat) (W : List WE) (hp : Hp W E l n) (hne : E.length = ne) (hnl : l.length = nl) (hoe : Own oe ne ce 4 (E.flatMap encEl) te) (hol : Own ol nl c 1 (ivn l) tl) : Spec Tryz.prog 177 [ptrH p] (hH p bx oe ne ce te n ol nl c tl E l) (fun r H' => ∃ g : HM, r = ptrH g.p ∧ H' = gH g ++ hH p bx oe ne ce te n ol nl c tl E l ∧ g.n = n ∧ HIs W g) := by
 have hec := hp.ecap
 have hcp := hp.cap
 refine Spec.of (E := [(0, ptrH p)]) Tryz.func177 rfl (by kernel_rfl) Tryz.ntmps177 rfl rfl (fun w => ?_)
 refine WC_seq (WC_region (WLa rfl (WL_nil (WQ_code (WC_seq (WC_seq (WC_region (WLa rfl ?_))))))))
 refine WL_do rfl rfl rfl (D_call (hzero_ok p bx _ _ _ _ _ _ _) rfl rfl rfl rfl (pqY)) ?_
 rintro _ _ ⟨_, ⟨rfl, rfl⟩, rfl⟩
 refine WL_nil (WQ_code ?_)
 refine WC_F rfl ?_
 refine WC_skip (WQ_code (WC_seq ?_))
 refine WC_draw _ [(0, true), (1, true), (2, true), (3, true), (5, true), (6, true), (7, true), (8, true), (4, false), (9, true), (10, false), (11, true)] followsMixed rfl rfl (by kernel_rfl) .all ?_
 refine WMa rfl (WMa rfl ?_)
 refine WM_val rfl rfl rfl rfl (R_fieldAddr rfl fa293_1 rfl) ?_
 refine WM_val rfl rfl rfl rfl (R_load rfl sc288 rfl (mmY) rfl) ?_
 refine WMa rfl (WMa rfl ?_)
 refine WM_val rfl rfl rfl rfl (R_fieldAddr rfl fa293_2 rfl) ?_
 refine WM_val rfl rfl rfl rfl (R_load rfl sc27 rfl (mmY) rfl) ?_
 refine WM_do rfl rfl rfl rfl (D_call (hce_ok oe ne ce (E.flatMap encEl) te hoe (oneEl E) (by omega)) rfl rfl rfl rfl (pqY)) ?_
 rintro _ _ ⟨_, ⟨o2, c2, t2, rfl, own2, rfl⟩, rfl⟩
 refine ⟨⟨_, pqY⟩, ?_⟩
 refine WM_val rfl rfl rfl rfl (R_build rfl zv293 pl293 rfl rfl) ?_
 refine WM_do rfl rfl rfl rfl (D_box (cs := [_, _, _, _, _, _]) rfl rfl rfl) ?_
 rintro _ _ ⟨b1, rfl, rfl⟩
 refine ⟨⟨_, pqY⟩, ?_⟩
 refine WMa rfl (WM_nil (WQ_code (WC_seq (WC_region (WLa rfl (WLa rfl (WLa rfl ?_)))))))
 refine WL_val rfl rfl rfl (R_fieldAddr rfl fa293_3 rfl) ?_
 refine WL_val rfl rfl rfl (R_fieldAddr rfl fa291_0 rfl) ?_
 refine WL_val rfl rfl rfl (R_load rfl sc34 rfl (mmY) rfl) ?_
 refine WL_do rfl rfl rfl (D_call (hci_ok ol nl c (ivn l) tl hol (oneN l) (by omega)) rfl rfl rfl rfl (pqY)) ?_
 rintro _ _ ⟨_, ⟨o3, c3, t3, rfl, own3, rfl⟩, rfl⟩
 refine WLa rfl ?_
 refine WL_val rfl rfl rfl (R_fieldAddr rfl fa293_3 rfl) ?_
 refine WL_val rfl rfl rfl (R_fieldAddr rfl fa291_0 rfl) ?_
 refine WL_do0 rfl rfl (D_store (vs := [_]) rfl Tryz.sizeOf34 rfl rfl rfl rfl rfl (plY) (Nat.le_of_ble_eq_true rfl)) ?_
 rintro _ _ rfl
 refine WL_nil (WQ_code (WC_seq (WC_region (WLa rfl ?_))))
 refine WL_do rfl rfl rfl (D_call (hbind_ok _ _ _ _ _ _ _) rfl rfl rfl rfl (pqY)) ?_
 rintro _ _ ⟨_, ⟨bx2, rfl, rfl⟩, rfl⟩
 refine WL_nil (WQ_code (WC_seq (WC_region (WLa rfl (WLa rfl (WL_nil (WQ_code (WC_ret ?_))))))))
 refine WQ_ret rfl rfl (.cons (.tmp rfl) .nil) rfl (by
   exact ⟨⟨_, bx2, o2, ne, c2, t2, n, o3, nl, c3, t3, E, l⟩, rfl, rfl, rfl, ⟨hp, hne, hnl, own2, own3⟩⟩) (pqY)
theorem hrem_x (p bx : Nat) (oe : Option Nat) (ne ce : Nat) (te : List Value) (n : Nat) (ol : Option Nat) (nl c : Nat) (tl : List Value) (E : List El) (l : List Nat) (W : List WE) (hp : Hp W E l n) (hne : E.length = ne) (hnl : l.length = nl) (hoe : Own oe ne ce 4 (E.flatMap encEl) te) (hol : Own ol nl c 1 (ivn l) tl) (h : Nat) (hd : h ∈ l) : Spec Tryz.prog 151 [ptrH p, .int .i64 (h : Int)] (hH p bx oe ne ce te n ol nl c tl E l)
  (fun r H' => ∃ g : HM, r = .int .i64 0 ∧ H' = gH g ∧ g.p = p ∧ g.n = n ∧ HIs (wremove W h) g) := by
 obtain ⟨w0, x, hw0, hwh, hx, _⟩ := hp.in hd
 obtain ⟨i, px, hi, hil⟩ := hp.at hx hd
 have hcp := hp.cap
 obtain ⟨m, hm⟩ : ∃ m, nl = m + 1 := ⟨nl - 1, by omega⟩
 subst hm
 obtain ⟨be, rfl⟩ := hoe.some_of (show 0 < ne by have := (List.getElem?_eq_some_iff.1 hx).1; omega)
 obtain ⟨bl, rfl⟩ := hol.some_of (show 0 < m + 1 by omega)
 refine Spec.of (E := [(0, ptrH p), (1, .int .i64 (h : Int))]) Tryz.func151 rfl (by kernel_rfl) Tryz.ntmps151 rfl rfl (fun w => ?_)
 refine WC_seq (WC_region (WLa rfl (WL_nil (WQ_code (WC_seq (WC_block (WC_seq (WC_region (WLa rfl ?_)))))))))
 refine WL_do rfl rfl rfl (D_call (hzero_ok p bx _ _ _ _ _ _ _) rfl rfl rfl rfl (pqY)) ?_
 rintro _ _ ⟨_, ⟨rfl, rfl⟩, rfl⟩
 refine WLa rfl (WL_nil (WQ_code ?_))
 refine WC_F rfl ?_
 refine WC_seq (WC_region (WLa rfl (WLa rfl ?_)))
 refine WL_do rfl rfl rfl (D_call (hhas_x p bx (some be) ne ce te n (some bl) (m + 1) c tl E l W hp hne hnl hoe hol (h : Int) true ⟨fun _ => ⟨h, rfl, hd⟩, fun _ => rfl⟩) rfl rfl rfl rfl (pqY)) ?_
 rintro _ _ ⟨_, ⟨rfl, rfl⟩, rfl⟩
 refine WL_val rfl rfl rfl (R_not rfl rfl) ?_
 refine WLa rfl (WL_nil (WQ_code ?_))
 refine WC_F rfl ?_
 refine WC_skip (WQ_code (WC_seq ?_))
 refine WC_drawE [⟨some p, _⟩, ⟨some be, _⟩, ⟨some bl, _⟩] [(0, false), (1, false), (2, false), (3, false), (4, false), (5, false), (6, true), (7, false), (8, false), (9, false), (10, true)] [(11, false)] followsMixed rfl rfl (by kernel_rfl) (pqY) ?_
 refine WZ_val rfl rfl rfl rfl (R_move rfl rfl) ?_
 refine WZ_val rfl rfl rfl rfl (R_nilCheck rfl rfl) ?_
 refine WZ_val rfl rfl rfl rfl (R_fieldAddr rfl fa293_3 rfl) ?_
 refine WZ_val rfl rfl rfl rfl (R_move rfl rfl) ?_
 refine WZ_val rfl rfl rfl rfl (R_nilCheck rfl rfl) ?_
 refine WZ_val rfl rfl rfl rfl (R_fieldAddr rfl fa293_1 rfl) ?_
 refine WZ_early rfl rfl rfl rfl (R_load rfl sc288 rfl (mmY) rfl) ?_
 refine WZ_val rfl rfl rfl rfl (R_move rfl rfl) ?_
 refine WZ_val rfl rfl rfl rfl (R_indexAddrN rfl Tryz.underlying288 Tryz.sizeOf300 rfl rfl (by have := (List.getElem?_eq_some_iff.1 hx).1; omega)) ?_
 refine WZ_val rfl rfl rfl rfl (R_fieldAddr rfl fa300_3 rfl) ?_
 refine WZ_early rfl rfl rfl rfl (R_load (v := .int .i64 (i : Int)) rfl sc3 rfl (mmY) ((fm_get0 encEl4 hx (j := 3) (by omega)).trans (congrArg (fun q => some (Value.int .i64 q)) px))) ?_
 refine WZ_rest ?_
 refine WM_do rfl rfl rfl rfl (D_call (qcut_ok p bx be ne ce te n bl (m + 1) c tl E l hp.st hp.ord hne m hnl rfl (by omega) hol.le i h hi) rfl rfl rfl rfl (pqY)) ?_
 rintro _ _ ⟨_, ⟨E2, E3, l3, l4, rfl, rfl, s2, pp2, s3, p4, o4⟩, rfl⟩
 refine ⟨⟨_, pqY⟩, ?_⟩
 refine WM_nil (WQ_code (WC_seq (WC_region ?_)))
 obtain ⟨x2, hx2, _⟩ := s2.same h x hx
 obtain ⟨x3, hx3, _⟩ := s3.same h x2 hx2
 refine WLa rfl (WLa rfl ?_)
 refine WL_val rfl rfl rfl (R_fieldAddr rfl fa293_1 rfl) ?_
 refine WL_val rfl rfl rfl (R_load rfl sc288 rfl (mmY) rfl) ?_
 refine WLa rfl ?_
 refine WL_val rfl rfl rfl (R_indexAddrN rfl Tryz.underlying288 Tryz.sizeOf300 rfl rfl (by have := (List.getElem?_eq_some_iff.1 hx).1; omega)) ?_
 refine WL_val rfl rfl rfl (R_fieldAddr rfl fa300_3 rfl) ?_
 refine WL_do0 rfl rfl (D_store (vs := [_]) rfl Tryz.sizeOf3 rfl rfl rfl rfl rfl (plY) (by exact fm_room0 encEl4 (List.getElem?_eq_some_iff.1 hx3).1 (j := 3) (by omega))) ?_
 rintro _ _ rfl
 have hput := fm_put0 encEl4 ({ x3 with pos := -1 } : El) hx3 (j := 3) (vs := [.int .i64 (-1)]) (by simp) rfl (tl := te)
 rw [hput, setp_of hx3 (-1)]
 refine WL_nil (WQ_code (WC_seq (WC_region (WLa rfl (WL_nil (WQ_code (WC_ret ?_)))))))
 refine WQ_ret rfl rfl (.cons (.tmp rfl) .nil) rfl (by
   exact ⟨⟨p, bx, some be, ne, ce, te, n, some bl, m, c, .int .i64 (h : Int) :: tl, setp E3 h (-1), l4⟩, rfl, rfl, rfl, rfl, ⟨hp.remove hd s2 pp2 s3 p4 (o4.cut p4 pp2 hnl), by dsimp only; rw [setp_len, s3.len, s2.len]; exact hne, by dsimp only; have := pp2.length_eq; rw [List.length_append, List.length_singleton] at this; rw [p4.length_eq]; omega, hoe.like (by simp only [fm_length encEl4, setp_len, s3.len, s2.len]), own_cut hol p4 pp2 hnl⟩⟩) (pqY)
end Go.Proofs.YtbkdebnkoidicaaGreat
end
section
set_option linter.unusedVariables false
set_option maxRecDepth 20000
namespace Go.Proofs.YtbkdebnkoidicaaGreat
theorem hnew_ok : Spec Tryz.prog 146 [] [] (fun r H' => ∃ g : HM, r = ptrH g.p ∧ H' = gH g ∧ HIs [] g ∧ g.n = 0) :=
 hnew_x.mono fun r H' ⟨p, bx, e1, e2⟩ => ⟨⟨p, bx, none, 0, 0, [], 0, none, 0, 0, [], [], []⟩, e1, e2, ⟨hp_new, rfl, rfl, Own.empty 4, Own.empty 1⟩, rfl⟩
structure IsMin (W : List WE) (w : WE) : Prop where
 mem : w ∈ W
 min : ∀ u ∈ W, w.k < u.k ∨ (w.k = u.k ∧ w.s ≤ u.s)
theorem HIs.smem {W : List WE} {g : HM} (hg : HIs W g) {a b : WE} (ha : a ∈ W) (hb : b ∈ W) (h : a.s = b.s) : a = b := by
 have hn := hg.hp.inc
 rw [List.pairwise_iff_getElem] at hn
 obtain ⟨i, hi, rfl⟩ := List.mem_iff_getElem.1 ha
 obtain ⟨j, hj, rfl⟩ := List.mem_iff_getElem.1 hb
 rcases Nat.lt_trichotomy i j with e | e | e
 ·have := hn i j hi hj e; omega
 ·subst e; rfl
 ·have := hn j i hj hi e; omega
theorem IsMin.one {W : List WE} {g : HM} (hg : HIs W g) {a b : WE} (ha : IsMin W a) (hb : IsMin W b) : a = b := by
 have h1 := ha.min b hb.mem
 have h2 := hb.min a ha.mem
 exact hg.smem ha.mem hb.mem (by omega)
theorem HIs.top {W : List WE} {g : HM} (hg : HIs W g) (h : W ≠ []) : ∃ w, IsMin W w ∧ g.l[0]? = some w.h := by
 have hl : 0 < g.l.length := by rw [hg.hp.len]; exact List.length_pos_iff.2 h
 obtain ⟨w, hw, e, hm⟩ := hg.hp.top (List.getElem?_eq_getElem hl)
 exact ⟨w, ⟨hw, hm⟩, by rw [List.getElem?_eq_getElem hl, e]⟩
theorem htop_nil (g : HM) (hg : HIs [] g) : Spec Tryz.prog 153 [ptrH g.p] (gH g) (fun r H' => r = .tuple #[.int .i64 0, .int .i64 9] ∧ H' = gH g) := by
 obtain ⟨p, bx, oe, ne, ce, te, n, ol, nl, c, tl, E, l⟩ := g
 obtain ⟨hp, hne, hnl, hoe, hol⟩ := hg
 dsimp only at hp hne hnl hoe hol
 exact htop_none p bx oe ne ce te n ol nl c tl E l (by rw [← hnl, hp.len]; rfl)
theorem htop_w (g : HM) (W : List WE) (hg : HIs W g) (w : WE) (hw : IsMin W w) : Spec Tryz.prog 153 [ptrH g.p] (gH g) (fun r H' => r = .tuple #[.int .i64 (w.h : Int), .int .i64 0] ∧ H' = gH g) := by
 obtain ⟨u, hu, hl⟩ := hg.top (List.ne_nil_of_mem hw.mem)
 obtain rfl := hw.one hg hu
 obtain ⟨p, bx, oe, ne, ce, te, n, ol, nl, c, tl, E, l⟩ := g
 obtain ⟨hp, hne, hnl, hoe, hol⟩ := hg
 dsimp only at hp hne hnl hoe hol
 exact htop_x p bx oe ne ce te n ol nl c tl E l W hp hne hnl hoe hol w.h hl
theorem Hp.out {W : List WE} {E : List El} {l : List Nat} {n : Nat} (hp : Hp W E l n) {i : Int} (h : ∀ w ∈ W, (w.h : Int) ≠ i) : ∀ h : Nat, i = (h : Int) → h ∉ l := fun k e hm => by
 obtain ⟨w, hw, e2⟩ := (hp.mem k).1 hm
 exact h w hw (by rw [e2, e])
theorem Hp.inn {W : List WE} {E : List El} {l : List Nat} {n : Nat} (hp : Hp W E l n) {w : WE} (h : w ∈ W) : w.h ∈ l := (hp.mem _).2 ⟨w, h, rfl⟩
theorem hget_no (g : HM) (W : List WE) (hg : HIs W g) (i : Int) (h : ∀ w ∈ W, (w.h : Int) ≠ i) : Spec Tryz.prog 154 [ptrH g.p, .int .i64 i] (gH g) (fun r H' => r = .tuple #[.int .u64 0, .int .i64 0, .int .i64 9] ∧ H' = gH g) := by
 obtain ⟨p, bx, oe, ne, ce, te, n, ol, nl, c, tl, E, l⟩ := g
 obtain ⟨hp, hne, hnl, hoe, hol⟩ := hg
 dsimp only at hp hne hnl hoe hol
 exact hget_none p bx oe ne ce te n ol nl c tl E l W hp hne hnl hoe hol i (hp.out h)
theorem hget_w (g : HM) (W : List WE) (hg : HIs W g) (w : WE) (hw : w ∈ W) : Spec Tryz.prog 154 [ptrH g.p, .int .i64 (w.h : Int)] (gH g) (fun r H' => r = .tuple #[.int .u64 (w.k : Int), .int .i64 w.v, .int .i64 0] ∧ H' = gH g) := by
 obtain ⟨p, bx, oe, ne, ce, te, n, ol, nl, c, tl, E, l⟩ := g
 obtain ⟨hp, hne, hnl, hoe, hol⟩ := hg
 dsimp only at hp hne hnl hoe hol
 obtain ⟨x, hx, h1, h2, h3⟩ := hp.el w hw
 rw [← h1, ← h2]
 exact hget_x p bx oe ne ce te n ol nl c tl E l W hp hne hnl hoe hol w.h (hp.inn hw) x hx
theorem hrem_w (g : HM) (W : List WE) (hg : HIs W g) (w : WE) (hw : w ∈ W) : Spec Tryz.prog 151 [ptrH g.p, .int .i64 (w.h : Int)] (gH g) (fun r H' => ∃ g' : HM, r = .int .i64 0 ∧ H' = gH g' ∧ g'.p = g.p ∧ g'.n = g.n ∧ HIs (wremove W w.h) g') := by
 obtain ⟨p, bx, oe, ne, ce, te, n, ol, nl, c, tl, E, l⟩ := g
 obtain ⟨hp, hne, hnl, hoe, hol⟩ := hg
 dsimp only at hp hne hnl hoe hol
 exact hrem_x p bx oe ne ce te n ol nl c tl E l W hp hne hnl hoe hol w.h (hp.inn hw)
theorem hcopy_ok (g : HM) (W : List WE) (hg : HIs W g) : Spec Tryz.prog 177 [ptrH g.p] (gH g) (fun r H' => ∃ g' : HM, r = ptrH g'.p ∧ H' = gH g' ++ gH g ∧ g'.n = g.n ∧ HIs W g') := by
 obtain ⟨p, bx, oe, ne, ce, te, n, ol, nl, c, tl, E, l⟩ := g
 obtain ⟨hp, hne, hnl, hoe, hol⟩ := hg
 dsimp only at hp hne hnl hoe hol
 exact hcopy_x p bx oe ne ce te n ol nl c tl E l W hp hne hnl hoe hol
structure IsFree (W : List WE) (f : Nat) : Prop where
 out : ∀ w ∈ W, w.h ≠ f
 below : ∀ j, j < f → ∃ w ∈ W, w.h = j
theorem IsFree.one {W : List WE} {a b : Nat} (ha : IsFree W a) (hb : IsFree W b) : a = b := by
 rcases Nat.lt_trichotomy a b with e | e | e
 ·obtain ⟨w, hw, h⟩ := hb.below a e; exact absurd h (ha.out w hw)
 ·exact e
 ·obtain ⟨w, hw, h⟩ := ha.below b e; exact absurd h (hb.out w hw)
theorem hpush_ok (g : HM) (W : List WE) (hg : HIs W g) (h : W.length < 1024) (hb : g.n + 1 < 9000000000000000000) (f : Nat) (hf : IsFree W f) (k : Nat) (v : Int) : Spec Tryz.prog 152 [ptrH g.p, .int .u64 (k : Int), .int .i64 v] (gH g)
  (fun r H' => ∃ g' : HM, r = .tuple #[.int .i64 (f : Int), .int .i64 0] ∧ H' = gH g' ∧ g'.p = g.p ∧ g'.n = g.n + 1 ∧ HIs (W ++ [⟨f, v, k, g.n + 1⟩]) g') := by
 obtain ⟨p, bx, oe, ne, ce, te, n, ol, nl, c, tl, E, l⟩ := g
 obtain ⟨hp, hne, hnl, hoe, hol⟩ := hg
 dsimp only at hp hne hnl hoe hol
 have e : fr E = f := IsFree.one ⟨fun w hw e => hp.fr_out (e ▸ hp.inn hw), fun j hj => (hp.mem j).1 (hp.below hj)⟩ hf
 subst e
 exact hpush_x p bx oe ne ce te n ol nl c tl E l W hp hne hnl hoe hol (by rw [← hnl, hp.len]; exact h) hb k v
end Go.Proofs.YtbkdebnkoidicaaGreat
end
section
set_option linter.unusedVariables false
set_option maxRecDepth 20000
namespace Go.Proofs.YtbkdebnkoidicaaGreat
structure Tm where
 n : Nat
 gen : Nat
 own : Int
 tm : Nat
 gone : Bool
 sq : Nat
abbrev live (L : List Tm) : List Tm := L.filter (fun t => !t.gone)
def toW (t : Tm) : WE := ⟨t.n, t.own, t.tm, t.sq⟩
abbrev wl (L : List Tm) : List WE := (live L).map toW
def cnt (L : List Tm) (k : Nat) : Nat := L.countP (fun t => decide (t.n = k))
structure TRel (L : List Tm) (gv : List Nat) (n : Nat) : Prop where
 gv : ∀ k, cnt L k = gv.getD k 0
 last : ∀ t ∈ L, t.gone = false → t.gen + 1 = cnt L t.n
 inc : L.Pairwise (fun a b => a.sq < b.sq ∧ (a.n = b.n → a.gen < b.gen))
 lt : ∀ t ∈ L, t.gen < cnt L t.n
 le : ∀ t ∈ L, t.sq ≤ n
 ln : L.length ≤ n
theorem trel_new : TRel [] [] 0 := ⟨fun k => rfl, fun t ht => (by cases ht), .nil, fun t ht => (by cases ht), fun t ht => (by cases ht), Nat.le_refl _⟩
theorem mem_live {L : List Tm} {t : Tm} : t ∈ live L ↔ t ∈ L ∧ t.gone = false := by
 rw [List.mem_filter]; cases t.gone <;> simp
theorem mem_wl {L : List Tm} {w : WE} : w ∈ wl L ↔ ∃ t ∈ L, t.gone = false ∧ toW t = w := by
 rw [List.mem_map]
 constructor
 ·rintro ⟨t, ht, h⟩; exact ⟨t, (mem_live.1 ht).1, (mem_live.1 ht).2, h⟩
 ·rintro ⟨t, ht, hg, h⟩; exact ⟨t, mem_live.2 ⟨ht, hg⟩, h⟩
theorem cnt_pos {L : List Tm} {t : Tm} (h : t ∈ L) : 0 < cnt L t.n := List.countP_pos_iff.2 ⟨t, h, by simp⟩
theorem cnt_le (L : List Tm) (k : Nat) : cnt L k ≤ L.length := List.countP_le_length
theorem TRel.len {L : List Tm} {gv : List Nat} {n : Nat} (r : TRel L gv n) {t : Tm} (h : t ∈ L) : t.n < gv.length := by
 have h1 := cnt_pos h
 rw [r.gv] at h1
 rcases Nat.lt_or_ge t.n gv.length with h2 | h2
 ·exact h2
 ·rw [List.getD_eq_getElem?_getD, List.getElem?_eq_none_iff.2 h2] at h1; exact absurd h1 (by simp)
theorem TRel.get {L : List Tm} {gv : List Nat} {n k : Nat} (r : TRel L gv n) (h : k < gv.length) : gv[k]? = some (cnt L k) := by
 rw [r.gv, List.getD_eq_getElem?_getD, List.getElem?_eq_getElem h]; rfl
theorem TRel.one {L : List Tm} {gv : List Nat} {n : Nat} (r : TRel L gv n) {i j : Nat} {a b : Tm} (hi : L[i]? = some a) (hj : L[j]? = some b) (h1 : a.n = b.n) (h2 : a.gen = b.gen) : i = j := by
 have hp := r.inc
 rw [List.pairwise_iff_getElem] at hp
 obtain ⟨h3, rfl⟩ := List.getElem?_eq_some_iff.1 hi
 obtain ⟨h4, rfl⟩ := List.getElem?_eq_some_iff.1 hj
 rcases Nat.lt_trichotomy i j with e | e | e
 ·have := (hp i j h3 h4 e).2 h1; omega
 ·exact e
 ·have := (hp j i h4 h3 e).2 h1.symm; omega
theorem TRel.liveN {L : List Tm} {gv : List Nat} {n : Nat} (r : TRel L gv n) {i j : Nat} {a b : Tm} (hi : L[i]? = some a) (hj : L[j]? = some b) (ha : a.gone = false) (hb : b.gone = false) (h1 : a.n = b.n) : i = j := by
 refine r.one hi hj h1 ?_
 have e1 := r.last a (List.mem_of_getElem? hi) ha
 have e2 := r.last b (List.mem_of_getElem? hj) hb
 rw [h1] at e1
 omega
def rm1 (k : Nat) (u : Tm) : Tm := if u.gone = false ∧ u.n = k then { u with gone := true } else u
theorem rm1_n (k : Nat) (u : Tm) : (rm1 k u).n = u.n := by unfold rm1; split <;> rfl
theorem rm1_gen (k : Nat) (u : Tm) : (rm1 k u).gen = u.gen := by unfold rm1; split <;> rfl
theorem rm1_own (k : Nat) (u : Tm) : (rm1 k u).own = u.own := by unfold rm1; split <;> rfl
theorem rm1_tm (k : Nat) (u : Tm) : (rm1 k u).tm = u.tm := by unfold rm1; split <;> rfl
theorem rm1_sq (k : Nat) (u : Tm) : (rm1 k u).sq = u.sq := by unfold rm1; split <;> rfl
theorem rm1_gone (k : Nat) (u : Tm) : (rm1 k u).gone = (u.gone || decide (u.n = k)) := by unfold rm1; by_cases e : u.n = k <;> cases h : u.gone <;> simp [h, e]
def rmL (L : List Tm) (k : Nat) : List Tm := L.map (rm1 k)
theorem rmL_set {L : List Tm} {gv : List Nat} {n : Nat} (r : TRel L gv n) {i : Nat} {t : Tm} (hi : L[i]? = some t) (hg : t.gone = false) : rmL L t.n = L.set i { t with gone := true } := by
 apply List.ext_getElem?
 intro j
 rw [rmL, List.getElem?_map, List.getElem?_set]
 by_cases e : i = j
 ·subst e
  rw [if_pos rfl, if_pos (List.getElem?_eq_some_iff.1 hi).1, hi]
  simp [hg, rm1]
 ·rw [if_neg e]
  cases hj : L[j]? with
  | none => rfl
  | some u =>
   simp only [Option.map_some, rm1]
   rw [if_neg (fun h => e (r.liveN hi hj hg h.1 h.2.symm))]
theorem wl_rm (L : List Tm) (k : Nat) : wl (rmL L k) = wremove (wl L) k := by
 rw [wl, wl, live, live, rmL, wremove, List.filter_map, List.map_map, List.filter_map, List.filter_filter]
 have e : L.filter ((fun t : Tm => !t.gone) ∘ rm1 k) = L.filter (fun a => ((fun w : WE => decide (w.h ≠ k)) ∘ toW) a && !a.gone) := List.filter_congr fun u _ => by
  simp only [Function.comp, rm1_gone, toW]
  by_cases h : u.n = k <;> cases u.gone <;> simp [h]
 rw [e]
 refine List.map_congr_left fun u _ => ?_
 simp only [Function.comp, toW, rm1_n, rm1_own, rm1_sq, rm1_tm]
theorem cnt_rm (L : List Tm) (k j : Nat) : cnt (rmL L k) j = cnt L j := by
 rw [cnt, cnt, rmL, List.countP_map]
 exact List.countP_congr fun u _ => by simp only [Function.comp, rm1_n]
theorem TRel.rm {L : List Tm} {gv : List Nat} {n : Nat} (r : TRel L gv n) (k : Nat) : TRel (rmL L k) gv n := by
 refine ⟨fun j => by rw [cnt_rm]; exact r.gv j, fun t ht hg => ?_, ?_, fun t ht => ?_, fun t ht => ?_, by rw [rmL, List.length_map]; exact r.ln⟩
 ·obtain ⟨u, hu, rfl⟩ := List.mem_map.1 ht
  rw [rm1_gone, Bool.or_eq_false_iff] at hg
  rw [cnt_rm, rm1_n, rm1_gen]; exact r.last u hu hg.1
 ·rw [rmL, List.pairwise_map]
  exact r.inc.imp fun {a b} hab => by rw [rm1_sq, rm1_sq, rm1_n, rm1_n, rm1_gen, rm1_gen]; exact hab
 ·obtain ⟨u, hu, rfl⟩ := List.mem_map.1 ht
  rw [cnt_rm, rm1_n, rm1_gen]; exact r.lt u hu
 ·obtain ⟨u, hu, rfl⟩ := List.mem_map.1 ht
  rw [rm1_sq]; exact r.le u hu
theorem cnt_snoc (L : List Tm) (t : Tm) (k : Nat) : cnt (L ++ [t]) k = cnt L k + (if t.n = k then 1 else 0) := by
 rw [cnt, cnt, List.countP_append, List.countP_singleton]
 by_cases h : t.n = k <;> simp [h]
theorem TRel.add {L : List Tm} {gv gv' : List Nat} {n : Nat} (r : TRel L gv n) (f : Nat) (own : Int) (tm : Nat) (hf : IsFree (wl L) f) (hgv : ∀ k, gv'.getD k 0 = gv.getD k 0 + (if f = k then 1 else 0)) :
  TRel (L ++ [⟨f, cnt L f, own, tm, false, n + 1⟩]) gv' (n + 1) := by
 refine ⟨fun k => by rw [cnt_snoc, hgv, r.gv], fun t ht hg => ?_, ?_, fun t ht => ?_, fun t ht => ?_, by rw [List.length_append, List.length_singleton]; have := r.ln; omega⟩
 ·rw [cnt_snoc]
  rcases List.mem_append.1 ht with ht | ht
  ·have hne : f ≠ t.n := fun e => hf.out (toW t) (mem_wl.2 ⟨t, ht, hg, rfl⟩) e.symm
   rw [if_neg hne]; exact r.last t ht hg
  ·rw [List.mem_singleton] at ht
   subst ht
   rw [if_pos rfl]
 ·rw [List.pairwise_append]
  refine ⟨r.inc, List.pairwise_singleton _ _, fun a ha b hb => ?_⟩
  rw [List.mem_singleton] at hb
  subst hb
  exact ⟨by have := r.le a ha; dsimp only; omega, fun e => by have := r.lt a ha; dsimp only at e ⊢; rw [e] at this; exact this⟩
 ·rw [cnt_snoc]
  rcases List.mem_append.1 ht with ht | ht
  ·have := r.lt t ht; omega
  ·rw [List.mem_singleton] at ht
   subst ht
   rw [if_pos rfl]; dsimp only; omega
 ·rcases List.mem_append.1 ht with ht | ht
  ·have := r.le t ht; omega
  ·rw [List.mem_singleton] at ht
   subst ht
   exact Nat.le_refl _
theorem wl_add (L : List Tm) (t : Tm) (h : t.gone = false) : wl (L ++ [t]) = wl L ++ [toW t] := by
 rw [wl, live, List.filter_append, List.map_append]
 congr 1
 simp [h]
theorem TRel.free {L : List Tm} {gv : List Nat} {n f : Nat} (r : TRel L gv n) (hf : IsFree (wl L) f) : f ≤ gv.length := by
 rcases Nat.eq_zero_or_pos f with h | h
 ·omega
 ·obtain ⟨w, hw, e⟩ := hf.below (f - 1) (by omega)
  obtain ⟨t, ht, _, rfl⟩ := mem_wl.1 hw
  have := r.len ht
  have e2 : t.n = f - 1 := e
  omega
structure IsFst (L : List Tm) (i : Nat) (t : Tm) : Prop where
 at_ : L[i]? = some t
 g : t.gone = false
 min : ∀ (j : Nat) (u : Tm), L[j]? = some u → u.gone = false → t.tm < u.tm ∨ (t.tm = u.tm ∧ i ≤ j)
theorem IsFst.one {L : List Tm} {i j : Nat} {a b : Tm} (ha : IsFst L i a) (hb : IsFst L j b) : i = j ∧ a = b := by
 have h1 := ha.min j b hb.at_ hb.g
 have h2 := hb.min i a ha.at_ ha.g
 have e : i = j := by omega
 subst e
 have := ha.at_
 rw [hb.at_] at this
 exact ⟨rfl, (Option.some.inj this).symm⟩
def fstP : List Tm → Option (Nat × Tm)
 | [] => none
 | t :: r => match fstP r with
  | none => if t.gone then none else some (0, t)
  | some (j, u) => if t.gone = false ∧ t.tm ≤ u.tm then some (0, t) else some (j + 1, u)
theorem fstP_none : ∀ {L : List Tm}, fstP L = none ↔ ∀ t ∈ L, t.gone = true
 | [] => by simp [fstP]
 | t :: r => by
  have ih := fstP_none (L := r)
  rw [fstP]
  cases h : fstP r with
  | none =>
   have h2 := ih.1 h
   cases hg : t.gone <;> simp [hg]
   exact h2
  | some x =>
   obtain ⟨j, u⟩ := x
   have h2 : ¬ ∀ t ∈ r, t.gone = true := fun e => by rw [ih.2 e] at h; cases h
   constructor
   ·intro e
    dsimp only at e
    split at e <;> cases e
   ·intro e
    exact absurd (fun t ht => e t (List.mem_cons_of_mem _ ht)) h2
theorem fstP_some : ∀ {L : List Tm} {i : Nat} {t : Tm}, fstP L = some (i, t) → IsFst L i t
 | [], _, _, h => by cases h
 | x :: r, i, t, h => by
  rw [fstP] at h
  cases hr : fstP r with
  | none =>
   rw [hr] at h
   dsimp only at h
   have h2 := fstP_none.1 hr
   cases hg : x.gone with
   | true => rw [hg] at h; cases h
   | false =>
    rw [hg] at h
    simp only [Bool.false_eq_true, if_false, Option.some.injEq, Prod.mk.injEq] at h
    obtain ⟨rfl, rfl⟩ := h
    refine ⟨rfl, hg, fun j u hj hu => ?_⟩
    cases j with
    | zero => exact .inr ⟨by simp at hj; rw [hj], Nat.le_refl _⟩
    | succ j =>
     have := h2 u (List.mem_of_getElem? (by simpa using hj))
     rw [hu] at this; cases this
  | some y =>
   obtain ⟨j, u⟩ := y
   rw [hr] at h
   dsimp only at h
   have ih := fstP_some hr
   by_cases hc : x.gone = false ∧ x.tm ≤ u.tm
   ·rw [if_pos hc] at h
    simp only [Option.some.injEq, Prod.mk.injEq] at h
    obtain ⟨rfl, rfl⟩ := h
    refine ⟨rfl, hc.1, fun k v hk hv => ?_⟩
    cases k with
    | zero => exact .inr ⟨by simp at hk; rw [hk], Nat.le_refl _⟩
    | succ k =>
     have := ih.min k v (by simpa using hk) hv
     omega
   ·rw [if_neg hc] at h
    simp only [Option.some.injEq, Prod.mk.injEq] at h
    obtain ⟨rfl, rfl⟩ := h
    refine ⟨by simpa using ih.at_, ih.g, fun k v hk hv => ?_⟩
    cases k with
    | zero =>
     simp at hk
     subst hk
     rw [hv] at hc
     simp only [true_and] at hc
     omega
    | succ k =>
     have := ih.min k v (by simpa using hk) hv
     omega
theorem IsFst.eq {L : List Tm} {i : Nat} {t : Tm} (h : IsFst L i t) : fstP L = some (i, t) := by
 cases hf : fstP L with
 | none =>
  have := fstP_none.1 hf t (List.mem_of_getElem? h.at_)
  rw [h.g] at this; cases this
 | some x =>
  obtain ⟨j, u⟩ := x
  obtain ⟨rfl, rfl⟩ := h.one (fstP_some hf)
  rfl
theorem IsFst.isMin {L : List Tm} {gv : List Nat} {n : Nat} (r : TRel L gv n) {i : Nat} {t : Tm} (h : IsFst L i t) : IsMin (wl L) (toW t) := by
 refine ⟨mem_wl.2 ⟨t, List.mem_of_getElem? h.at_, h.g, rfl⟩, fun w hw => ?_⟩
 obtain ⟨u, hu, hg, rfl⟩ := mem_wl.1 hw
 obtain ⟨j, hj⟩ := List.getElem?_of_mem hu
 have := h.min j u hj hg
 show t.tm < u.tm ∨ (t.tm = u.tm ∧ t.sq ≤ u.sq)
 rcases this with h1 | ⟨h1, h2⟩
 ·exact .inl h1
 ·refine .inr ⟨h1, ?_⟩
  have hp := r.inc
  rw [List.pairwise_iff_getElem] at hp
  obtain ⟨h3, e3⟩ := List.getElem?_eq_some_iff.1 h.at_
  obtain ⟨h4, e4⟩ := List.getElem?_eq_some_iff.1 hj
  rcases Nat.lt_or_ge i j with e | e
  ·have := (hp i j h3 h4 e).1
   rw [e3, e4] at this; omega
  ·have : i = j := by omega
   subst this
   rw [e3] at e4
   subst e4
   exact Nat.le_refl _
theorem wl_nil {L : List Tm} : wl L = [] ↔ fstP L = none := by
 rw [fstP_none]
 constructor
 ·intro h t ht
  cases hg : t.gone with
  | true => rfl
  | false =>
   have : toW t ∈ wl L := mem_wl.2 ⟨t, ht, hg, rfl⟩
   rw [h] at this; cases this
 ·intro h
  rw [List.eq_nil_iff_forall_not_mem]
  intro w hw
  obtain ⟨t, ht, hg, _⟩ := mem_wl.1 hw
  have := h t ht
  rw [hg] at this; cases this
def expL (now : Nat) : Nat → List Tm → List Tm × List Tm
 | 0, L => (L, [])
 | n + 1, L => match fstP L with
  | none => (L, [])
  | some (_, t) => if t.tm ≤ now then ((expL now n (rmL L t.n)).1, t :: (expL now n (rmL L t.n)).2) else (L, [])
theorem live_rm {L : List Tm} {gv : List Nat} {n : Nat} (r : TRel L gv n) {i : Nat} {t : Tm} (hi : L[i]? = some t) (hg : t.gone = false) : (live (rmL L t.n)).length + 1 = (live L).length := by
 have e : ∀ (M : List Tm) (j : Nat), M[j]? = some t → (live (M.set j { t with gone := true })).length + 1 = (live M).length := by
  intro M
  induction M with
  | nil => intro j hj; cases hj
  | cons x M ih =>
   intro j hj
   cases j with
   | zero =>
    simp only [List.getElem?_cons_zero, Option.some.injEq] at hj
    subst hj
    simp [live, hg]
   | succ j =>
    have := ih j (by simpa using hj)
    simp only [live, List.set_cons_succ, List.filter_cons]
    split
    ·simp only [List.length_cons]; simp only [live] at this; omega
    ·exact this
 rw [rmL_set r hi hg]; exact e L i hi
end Go.Proofs.YtbkdebnkoidicaaGreat
end
