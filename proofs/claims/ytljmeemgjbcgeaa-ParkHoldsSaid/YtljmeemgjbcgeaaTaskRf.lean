/-
  Chapter 09 (park), part TaskRf: contracts of functions that the laws call, each for the heap it names.
-/
import Derived.Test.YtljmeemgjbcgeaaRows
import Derived.Test.YtljmeemgjbcgeaaZSLQueue
import Derived.Test.YtljmeemgjbcgeaaTab
import Derived.Test.YtljmeemgjbcgeaaZSLArg
import Derived.Test.YtljmeemgjbcgeaaTaskR
set_option linter.unusedVariables false
set_option maxRecDepth 20000
set_option maxHeartbeats 1000000
namespace Go.Proofs.Ytljmeemgjbcgeaa


theorem tw_room {sm qm : List Int} {S : List (Int × Nat)} {Q : List (Nat × Int)} {n : Nat} {es : Array MapEntry} (h : Tw sm qm S Q n es) : qm.length ≤ 64 := by
  have := h.tk.room
  rw [← h.qm, List.length_map]; exact this
theorem take_get {l : List Int} {k : Nat} {v : Int} (h : l[k]? = some v) : l.take (k + 1) = l.take k ++ [v] := by
  obtain ⟨h1, rfl⟩ := List.getElem?_eq_some_iff.1 h
  rw [List.take_append_getElem]
theorem tw_nodup {sm qm : List Int} {S : List (Int × Nat)} {Q : List (Nat × Int)} {n : Nat} {es : Array MapEntry} (h : Tw sm qm S Q n es) : qm.Nodup := by
  rw [← h.qm, List.Nodup, List.pairwise_map]
  refine (List.Pairwise.and_mem.1 h.tk.qk.ord).imp fun {a b} ⟨ha, hb, hlt⟩ e => ?_
  obtain ⟨i, hi, h1⟩ := h.tk.back a.1 a.2 ha
  obtain ⟨j, hj, h2⟩ := h.tk.back b.1 b.2 hb
  have : i = j := by rw [hi, hj] at e; omega
  subst this
  rw [h1] at h2
  simp only [Option.some.injEq, Prod.mk.injEq, true_and] at h2
  omega
abbrev rV (os : Option Nat) (n c : Nat) (oq : Option Nat) (m d : Nat) : Value := .agg #[slV os n c, slV oq m d]
abbrev rH (os : Option Nat) (sm : List Int) (ts : List Value) (oq : Option Nat) (qm : List Int) (tq : List Value) : Heap := [⟨os, cl (ivs sm ++ ts) 3⟩, ⟨oq, cl (ivs qm ++ tq) 3⟩]
theorem ivs_one (l : List Int) : (ivs l).all Value.oneCell' = true := fm_all (fun _ => rfl) l
def stR (sm : List Int) (i : Int) : Int × Int := if i < 0 ∨ (sm.length : Int) ≤ i then (0, 2) else ((sm[i.toNat]?).getD 0, 0)
theorem stR_out {sm : List Int} {i : Int} (h : i < 0 ∨ (sm.length : Int) ≤ i) : stR sm i = (0, 2) := if_pos h
theorem stR_in {sm : List Int} {j : Nat} {x : Int} (h : sm[j]? = some x) : stR sm j = (x, 0) := by
  have := (List.getElem?_eq_some_iff.1 h).1
  rw [stR, if_neg (by omega), Int.toNat_natCast, h]; rfl
def nxR (qm : List Int) : Int × Int := match qm with
  | [] => (0, 9)
  | v :: _ => (v, 0)
/-- What a call does to states and run set: the error, the states, the run set. -/
def stepR (sm qm : List Int) (fr to i : Int) : Int × List Int × List Int :=
  if i < 0 ∨ (sm.length : Int) ≤ i then (2, sm, qm)
  else if sm[i.toNat]? = some fr then (0, sm.set i.toNat to, qm.filter (fun v => decide (v ≠ i)) ++ (if to = 1 then [i] else []))
  else (8, sm, qm)
theorem stepR_out {sm qm : List Int} {fr to i : Int} (h : i < 0 ∨ (sm.length : Int) ≤ i) : stepR sm qm fr to i = (2, sm, qm) := if_pos h
theorem stepR_bad {sm qm : List Int} {fr to x : Int} {j : Nat} (h : sm[j]? = some x) (hx : x ≠ fr) : stepR sm qm fr to j = (8, sm, qm) := by
  have := (List.getElem?_eq_some_iff.1 h).1
  rw [stepR, if_neg (by omega), Int.toNat_natCast, h, if_neg (fun e => hx (Option.some.inj e))]
theorem stepR_ok {sm qm : List Int} {fr to : Int} {j : Nat} (h : sm[j]? = some fr) : stepR sm qm fr to j = (0, sm.set j to, qm.filter (fun v => decide (v ≠ (j : Int))) ++ (if to = 1 then [(j : Int)] else [])) := by
  have := (List.getElem?_eq_some_iff.1 h).1
  rw [stepR, if_neg (by omega), Int.toNat_natCast, h, if_pos rfl]
theorem stepR_len (sm qm : List Int) (fr to i : Int) : (stepR sm qm fr to i).2.1.length = sm.length := by
  unfold stepR
  split
  · rfl
  · split
    · exact List.length_set
    · rfl
/-- A reference with these states and this run set, and what holds it. -/
abbrev RefIs (sm qm : List Int) (V : Value) (H' : Heap) : Prop := ∃ os sc ts oq qc tq, V = rV os sm.length sc oq qm.length qc ∧ Own os sm.length sc 1 (ivs sm) ts ∧ Own oq qm.length qc 1 (ivs qm) tq ∧ H' = rH os sm ts oq qm tq
theorem rnew_bad (m : Int) (h : m < 1 ∨ 64 < m) : Spec Try.prog 43 [.int .i64 m] [] (fun r H' => ∃ V, r = .tuple #[V, .int .i64 2] ∧ V = rV none 0 0 none 0 0 ∧ H' = []) := by
  refine Spec.of (E := [(0, .int .i64 m)]) Try.func43 rfl (by kernel_rfl) Try.ntmps43 rfl rfl (fun w => ?_)
  refine WC_seq ?_
  refine WC_region ?_
  refine WL_do rfl rfl rfl (D_alloc rfl zv54) ?_
  rintro _ _ ⟨b1, rfl, rfl⟩
  refine WL_val rfl rfl rfl (R_assign rfl rfl) ?_
  refine WL_nil ?_
  refine WQ_code ?_
  refine WC_seq ?_
  refine WC_seq ?_
  refine WC_region ?_
  refine WL_val rfl rfl rfl (R_move rfl rfl) ?_
  refine WL_val rfl rfl rfl (R_lss rfl rfl rfl) ?_
  refine WL_val rfl rfl rfl (R_move rfl rfl) ?_
  refine WL_splitD (s := 6) rfl (fun c1 => ?_) (fun c1 => ?_)
  · refine WL_skip rfl rfl rfl ?_
    refine WL_skip rfl rfl rfl ?_
    refine WL_val rfl rfl rfl (R_pickT rfl rfl rfl) ?_
    refine WL_nil ?_
    refine WQ_code ?_
    refine WC_T rfl ?_
    refine WC_seq ?_
    refine WC_region ?_
    refine WL_val rfl rfl rfl (R_build rfl zv54 pl54 rfl rfl) ?_
    refine WL_do0 rfl rfl (D_store (vs := [_, _]) rfl Try.sizeOf54 rfl rfl rfl rfl rfl (plZ) (by exact Nat.le_of_ble_eq_true rfl)) ?_
    rintro _ _ rfl
    refine WL_val rfl rfl rfl (R_assign rfl rfl) ?_
    refine WL_nil ?_
    refine WQ_code ?_
    refine WC_ret ?_
    refine WQ_ret rfl rfl (.cons (.cell (vs := [_, _]) rfl ag54 (mmZ) rfl (atZ)) (.cons (.tmp rfl) .nil)) rfl (by
        exact ⟨_, rfl, rfl, rfl⟩) (pqZ)
  · refine WL_val rfl rfl rfl (R_move rfl rfl) ?_
    refine WL_val rfl rfl rfl (R_gtr rfl rfl rfl) ?_
    refine WL_val rfl rfl rfl (R_pickF rfl rfl rfl) ?_
    refine WL_nil ?_
    refine WQ_code ?_
    refine WC_dec rfl (fun c2 => ?_) (fun c2 => ?_)
    · refine WC_seq ?_
      refine WC_region ?_
      refine WL_val rfl rfl rfl (R_build rfl zv54 pl54 rfl rfl) ?_
      refine WL_do0 rfl rfl (D_store (vs := [_, _]) rfl Try.sizeOf54 rfl rfl rfl rfl rfl (plZ) (by exact Nat.le_of_ble_eq_true rfl)) ?_
      rintro _ _ rfl
      refine WL_val rfl rfl rfl (R_assign rfl rfl) ?_
      refine WL_nil ?_
      refine WQ_code ?_
      refine WC_ret ?_
      refine WQ_ret rfl rfl (.cons (.cell (vs := [_, _]) rfl ag54 (mmZ) rfl (atZ)) (.cons (.tmp rfl) .nil)) rfl (by
          exact ⟨_, rfl, rfl, rfl⟩) (pqZ)
    · exfalso; revert h; simp_all <;> omega
theorem rnew_ok (m : Nat) (h1 : 1 ≤ m) (h2 : m ≤ 64) : Spec Try.prog 43 [.int .i64 (m : Int)] [] (fun r H' => ∃ V, r = .tuple #[V, .int .i64 0] ∧ RefIs (List.replicate m 0) [] V H') := by
  refine Spec.of (E := [(0, .int .i64 (m : Int))]) Try.func43 rfl (by kernel_rfl) Try.ntmps43 rfl rfl (fun w => ?_)
  refine WC_seq ?_
  refine WC_region ?_
  refine WL_do rfl rfl rfl (D_alloc rfl zv54) ?_
  rintro _ _ ⟨b1, rfl, rfl⟩
  refine WL_val rfl rfl rfl (R_assign rfl rfl) ?_
  refine WL_nil ?_
  refine WQ_code ?_
  refine WC_seq ?_
  refine WC_seq ?_
  refine WC_region ?_
  refine WL_val rfl rfl rfl (R_move rfl rfl) ?_
  refine WL_val rfl rfl rfl (R_lss rfl rfl rfl) ?_
  refine WL_val rfl rfl rfl (R_move rfl rfl) ?_
  refine WL_set (s := 6) (v := .bool false) rfl (by simp <;> omega) ?_
  refine WL_val rfl rfl rfl (R_move rfl rfl) ?_
  refine WL_val rfl rfl rfl (R_gtr rfl rfl rfl) ?_
  refine WL_val rfl rfl rfl (R_pickF rfl rfl rfl) ?_
  refine WL_nil ?_
  refine WQ_code ?_
  refine WC_dF rfl (by omega) ?_
  refine WC_skip ?_
  refine WQ_code ?_
  refine WC_seq ?_
  refine WC_region ?_
  refine WL_val rfl rfl rfl (R_move rfl rfl) ?_
  refine WL_do rfl rfl rfl (D_make (n := m) rfl si32 rfl rfl (by omega) (by omega)) ?_
  rintro _ _ ⟨b2, rfl, rfl⟩
  rw [show (List.replicate m [Value.int .i64 0]).flatten = ivs (List.replicate m 0) ++ [] from by rw [List.append_nil]; exact fm_rep (enc := encI) 0 m]
  have own9 : Own (some b2) (List.replicate m (0 : Int)).length m 1 (ivs (List.replicate m 0)) [] := ⟨by rw [fm_length encI1], by rw [fm_length encI1, List.length_replicate]; simp, by rw [List.length_replicate]; omega, by omega, fun h => by cases h⟩
  rw [show Value.slice (some ⟨b2, 0, none⟩) m m = slV (some b2) (List.replicate m (0 : Int)).length m from by rw [List.length_replicate]; rfl]
  refine WL_val rfl rfl rfl (R_build rfl zv54 pl54 rfl rfl) ?_
  refine WL_do0 rfl rfl (D_store (vs := [_, _]) rfl Try.sizeOf54 rfl rfl rfl rfl rfl (plZ) (by exact Nat.le_of_ble_eq_true rfl)) ?_
  rintro _ _ rfl
  refine WL_val rfl rfl rfl (R_assign rfl rfl) ?_
  refine WL_nil ?_
  refine WQ_code ?_
  refine WC_ret ?_
  refine WQ_none 3 ?_
  refine WQ_ret rfl rfl (.cons (.cell (vs := [_, _]) rfl ag54 (mmZ) rfl (atZ)) (.cons (.tmp rfl) .nil)) rfl (by
      exact ⟨_, rfl, some b2, m, [], none, 0, [], rfl, own9, Own.empty 1, rfl⟩) (pqZ)
theorem rstate_ok (sm qm : List Int) (os : Option Nat) (sc : Nat) (ts : List Value) (oq : Option Nat) (qc : Nat) (tq : List Value) (hos : Own os sm.length sc 1 (ivs sm) ts) (hoq : Own oq qm.length qc 1 (ivs qm) tq) (i : Int) : Spec Try.prog 51 [rV os sm.length sc oq qm.length qc, .int .i64 i] (rH os sm ts oq qm tq) (fun r H' => r = .tuple #[.int .i64 (stR sm i).1, .int .i64 (stR sm i).2] ∧ H' = rH os sm ts oq qm tq) := by
  have hsc := hos.le
  have hsb := hos.big
  refine Spec.of (E := [(0, rV os sm.length sc oq qm.length qc), (1, .int .i64 i)]) Try.func51 rfl (by kernel_rfl) Try.ntmps51 rfl rfl (fun w => ?_)
  refine WC_seq ?_
  refine WC_region ?_
  refine WL_do rfl rfl rfl (D_box (cs := [_, _]) rfl rfl rfl) ?_
  rintro _ _ ⟨b1, rfl, rfl⟩
  refine WL_val rfl rfl rfl (R_assign rfl rfl) ?_
  refine WL_val rfl rfl rfl (R_assign rfl rfl) ?_
  refine WL_nil ?_
  refine WQ_code ?_
  refine WC_seq ?_
  refine WC_seq ?_
  refine WC_region ?_
  refine WL_val rfl rfl rfl (R_move rfl rfl) ?_
  refine WL_val rfl rfl rfl (R_lss rfl rfl rfl) ?_
  refine WL_val rfl rfl rfl (R_move rfl rfl) ?_
  refine WL_splitD (s := 8) rfl (fun c1 => ?_) (fun c1 => ?_)
  · have hr : i < 0 ∨ (sm.length : Int) ≤ i := by omega
    refine WL_skip rfl rfl rfl ?_
    refine WL_skip rfl rfl rfl ?_
    refine WL_skip rfl rfl rfl ?_
    refine WL_skip rfl rfl rfl ?_
    refine WL_skip rfl rfl rfl ?_
    refine WL_val rfl rfl rfl (R_pickT rfl rfl rfl) ?_
    refine WL_nil ?_
    refine WQ_code ?_
    refine WC_T rfl ?_
    refine WC_seq ?_
    refine WC_region ?_
    refine WL_val rfl rfl rfl (R_assign rfl rfl) ?_
    refine WL_val rfl rfl rfl (R_assign rfl rfl) ?_
    refine WL_nil ?_
    refine WQ_code ?_
    refine WC_ret ?_
    refine WQ_ret rfl rfl (.cons (.tmp rfl) (.cons (.tmp rfl) .nil)) rfl (by
        exact ⟨by rw [stR_out hr]; rfl, rfl⟩) (pqZ)
  · refine WL_val rfl rfl rfl (R_move rfl rfl) ?_
    refine WL_val rfl rfl rfl (R_fieldAddr rfl fa54_0 rfl) ?_
    refine WL_val rfl rfl rfl (R_load rfl sc32 rfl (mmZ) rfl) ?_
    refine WL_val rfl rfl rfl (R_len rfl Try.underlying32 rfl) ?_
    refine WL_val rfl rfl rfl (R_geq rfl rfl rfl) ?_
    refine WL_val rfl rfl rfl (R_pickF rfl rfl rfl) ?_
    refine WL_nil ?_
    refine WQ_code ?_
    refine WC_dec rfl (fun c2 => ?_) (fun c2 => ?_)
    · have hr : i < 0 ∨ (sm.length : Int) ≤ i := by first | omega | simpa using c2
      refine WC_seq ?_
      refine WC_region ?_
      refine WL_val rfl rfl rfl (R_assign rfl rfl) ?_
      refine WL_val rfl rfl rfl (R_assign rfl rfl) ?_
      refine WL_nil ?_
      refine WQ_code ?_
      refine WC_ret ?_
      refine WQ_ret rfl rfl (.cons (.tmp rfl) (.cons (.tmp rfl) .nil)) rfl (by
          exact ⟨by rw [stR_out hr]; rfl, rfl⟩) (pqZ)
    · have hr : ¬ (i < 0 ∨ (sm.length : Int) ≤ i) := by first | omega | simpa using c2
      obtain ⟨i, rfl⟩ := Int.eq_ofNat_of_zero_le (show 0 ≤ i by omega)
      obtain ⟨x, hx⟩ := exE (T := sm) (i := i) (by omega)
      obtain ⟨wb, rfl⟩ := hos.some_of (by omega)
      refine WC_skip ?_
      refine WQ_code ?_
      refine WC_seq ?_
      refine WC_region ?_
      refine WL_val rfl rfl rfl (R_fieldAddr rfl fa54_0 rfl) ?_
      refine WL_val rfl rfl rfl (R_load rfl sc32 rfl (mmZ) rfl) ?_
      refine WL_val rfl rfl rfl (R_move rfl rfl) ?_
      refine WL_val rfl rfl rfl (R_indexAddrN rfl Try.underlying32 Try.sizeOf3 rfl rfl (by omega)) ?_
      refine WL_val rfl rfl rfl (R_load (v := .int .i64 x) rfl sc3 rfl (mmZ) (fm_get0 encI1 hx (j := 0) (by omega))) ?_
      refine WL_val rfl rfl rfl (R_assign rfl rfl) ?_
      refine WL_val rfl rfl rfl (R_assign rfl rfl) ?_
      refine WL_nil ?_
      refine WQ_code ?_
      refine WC_ret ?_
      refine WQ_ret rfl rfl (.cons (.tmp rfl) (.cons (.tmp rfl) .nil)) rfl (by
          exact ⟨by rw [stR_in hx]; rfl, rfl⟩) (pqZ)
theorem filt_yes {x v : Int} (h : x ≠ v) : [x].filter (fun y => decide (y ≠ v)) = [x] := by simp [h]
theorem filt_no {x v : Int} (h : x = v) : [x].filter (fun y => decide (y ≠ v)) = [] := by simp [h]
structure RW where
  k : Nat
  l : List Int
  ob : Option Nat
  c : Nat
  tl : List Value
theorem without_ok (qm : List Int) (oq : Option Nat) (qc : Nat) (tq : List Value) (hoq : Own oq qm.length qc 1 (ivs qm) tq) (hl : qm.length ≤ 64) (v : Int) : Spec Try.prog 75 [slV oq qm.length qc, .int .i64 v] [⟨oq, cl (ivs qm ++ tq) 3⟩]
    (fun r H' => ∃ ob c' tl', r = slV ob (qm.filter (fun x => decide (x ≠ v))).length c' ∧ Own ob (qm.filter (fun x => decide (x ≠ v))).length c' 1 (ivs (qm.filter (fun x => decide (x ≠ v)))) tl' ∧ H' = [⟨ob, cl (ivs (qm.filter (fun x => decide (x ≠ v))) ++ tl') 3⟩, ⟨oq, cl (ivs qm ++ tq) 3⟩]) := by
  have hsc := hoq.le
  have hsb := hoq.big
  refine Spec.of (E := [(0, slV oq qm.length qc), (1, .int .i64 v)]) Try.func75 rfl (by kernel_rfl) Try.ntmps75 rfl rfl (fun w => ?_)
  refine WC_seq ?_
  refine WC_region ?_
  refine WL_val rfl rfl rfl (R_assign rfl rfl) ?_
  refine WL_nil ?_
  refine WQ_code ?_
  refine WC_seq ?_
  refine WC_region ?_
  refine WL_val rfl rfl rfl (R_assign rfl rfl) ?_
  refine WL_nil ?_
  refine WQ_code ?_
  refine WC_seq ?_
  refine WC_seq ?_
  refine WC_region ?_
  refine WL_val rfl rfl rfl (R_assign rfl rfl) ?_
  refine WL_nil ?_
  refine WQ_code ?_
  refine WC_block ?_
  refine WC_none 3 ?_
  refine WC_loopF (G := RW) [5, 6, 7, 8, 9, 10, 11, 12, 13, 14, 15, 16, 17, 18, 19, 20, 21, 22, 23, 24, 25] (fun y => y.k ≤ qm.length ∧ y.l = (qm.take y.k).filter (fun x => decide (x ≠ v)) ∧ y.l.length ≤ y.k ∧ Own y.ob y.l.length y.c 1 (ivs y.l) y.tl) (fun y => [(6, .int .i64 (y.k : Int)), (5, slV y.ob y.l.length y.c)]) (fun y => [⟨y.ob, cl (ivs y.l ++ y.tl) 3⟩]) (fun y => qm.length - y.k) (⟨0, [], none, 0, []⟩) (⟨Nat.zero_le _, by simp, Nat.zero_le _, Own.empty 1⟩) leZ (pqZ) ?_
  rintro y ⟨hk, hyl, hyk, hyo⟩
  refine WC_seq ?_
  refine WC_seq ?_
  refine WC_region ?_
  refine WL_val rfl rfl rfl (R_move rfl rfl) ?_
  refine WL_val rfl rfl rfl (R_move rfl rfl) ?_
  refine WL_val rfl rfl rfl (R_len rfl Try.underlying32 rfl) ?_
  refine WL_val rfl rfl rfl (R_lss rfl rfl rfl) ?_
  refine WL_nil ?_
  refine WQ_code ?_
  refine WC_dec rfl (fun c1 => ?_) (fun c1 => ?_)
  · refine WC_skip ?_
    refine WQ_code ?_
    refine WC_seq ?_
    refine WC_block ?_
    refine WC_seq ?_
    refine WC_region ?_
    refine WL_val rfl rfl rfl (R_move rfl rfl) ?_
    refine WL_val rfl rfl rfl (R_move rfl rfl) ?_
    obtain ⟨x, hx⟩ := exE (T := qm) (i := y.k) (by omega)
    obtain ⟨wq, rfl⟩ := hoq.some_of (by omega)
    refine WL_val rfl rfl rfl (R_indexAddrN rfl Try.underlying32 Try.sizeOf3 rfl rfl (by omega)) ?_
    refine WL_val rfl rfl rfl (R_load (v := .int .i64 x) rfl sc3 rfl (mmZ) (fm_get0 encI1 hx (j := 0) (by omega))) ?_
    refine WL_val rfl rfl rfl (R_move rfl rfl) ?_
    refine WL_val rfl rfl rfl (R_neq rfl rfl rfl) ?_
    refine WL_nil ?_
    refine WQ_code ?_
    refine WC_dec rfl (fun c2 => ?_) (fun c2 => ?_)
    · have hne : x ≠ v := c2
      refine WC_region ?_
      refine WL_val rfl rfl rfl (R_move rfl rfl) ?_
      refine WL_val rfl rfl rfl (R_move rfl rfl) ?_
      refine WL_val rfl rfl rfl (R_move rfl rfl) ?_
      refine WL_val rfl rfl rfl (R_indexAddrN rfl Try.underlying32 Try.sizeOf3 rfl rfl (by omega)) ?_
      refine WL_val rfl rfl rfl (R_load (v := .int .i64 x) rfl sc3 rfl (mmZ) (fm_get0 encI1 hx (j := 0) (by omega))) ?_
      refine WL_do rfl rfl rfl (D_buildSlice rfl si32 rfl rfl rfl) ?_
      rintro _ _ ⟨b1, rfl, rfl⟩
      refine WL_do rfl rfl rfl (D_append rfl si32 rfl (hyo) (plZ) rfl (mmZ) ((atZ : At _ 0 [_])) (rfl) (rfl) (by omega) (by omega)) ?_
      rintro _ _ ⟨ob2, cap2, tl2, rfl, own2, rfl⟩
      have hsn : ivs y.l ++ [Value.int .i64 x] = ivs (y.l ++ [x]) := by simp
      rw [hsn] at own2 ⊢
      refine WL_val rfl rfl rfl (R_assign rfl rfl) ?_
      refine WL_nil ?_
      refine WQ_code ?_
      refine WC_region ?_
      refine WL_val rfl rfl rfl (R_move rfl rfl) ?_
      refine WL_val rfl rfl rfl (R_add rfl rfl rfl (by omega)) ?_
      refine WL_val rfl rfl rfl (R_assign rfl rfl) ?_
      refine WL_nil ?_
      rw [show y.l.length + 1 = (y.l ++ [x]).length from by rw [List.length_append, List.length_singleton]]
      refine WQ_nextF (⟨y.k + 1, y.l ++ [x], ob2, cap2, tl2⟩) (⟨by dsimp only; omega, by dsimp only; rw [take_get hx, List.filter_append, ← hyl, filt_yes hne], by dsimp only; rw [List.length_append, List.length_singleton]; omega, by dsimp only; rw [List.length_append, List.length_singleton]; exact own2⟩) (by dsimp only; omega) leZ (psZ) rfl (pqZ)
    · have heq : x = v := Decidable.not_not.1 c2
      refine WC_skip ?_
      refine WQ_code ?_
      refine WC_region ?_
      refine WL_val rfl rfl rfl (R_move rfl rfl) ?_
      refine WL_val rfl rfl rfl (R_add rfl rfl rfl (by omega)) ?_
      refine WL_val rfl rfl rfl (R_assign rfl rfl) ?_
      refine WL_nil ?_
      refine WQ_nextF (⟨y.k + 1, y.l, y.ob, y.c, y.tl⟩) (⟨by dsimp only; omega, by dsimp only; rw [take_get hx, List.filter_append, ← hyl, filt_no heq, List.append_nil], by dsimp only; omega, hyo⟩) (by dsimp only; omega) leZ (psZ) rfl (pqZ)
  · have ek : y.k = qm.length := by omega
    rw [ek, List.take_length] at hyl
    rw [hyl]
    rw [hyl] at hyo
    refine WC_exit ?_
    refine WQ_code ?_
    refine WC_seq ?_
    refine WC_region ?_
    refine WL_val rfl rfl rfl (R_move rfl rfl) ?_
    refine WL_val rfl rfl rfl (R_assign rfl rfl) ?_
    refine WL_nil ?_
    refine WQ_code ?_
    refine WC_ret ?_
    refine WQ_ret rfl rfl (.cons (.tmp rfl) .nil) rfl (by
        exact ⟨y.ob, y.c, y.tl, rfl, hyo, rfl⟩) (pqZ)

end Go.Proofs.Ytljmeemgjbcgeaa
