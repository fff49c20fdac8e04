/-
  Chapter 45 (rpc), part SvI: contracts of functions that the laws call, each for the heap it names.
-/
import Derived.Test.YtdelhikejgoffaaGreatY03
import Derived.Test.YtdelhikejgoffaaGreatRows
import Derived.Shelf.SlSortCmp.Whole1
import Derived.Shelf.SlSortCmp.NoneTotal
section
set_option linter.unusedVariables false
set_option maxRecDepth 20000
set_option maxHeartbeats 4000000
namespace Go.Proofs.YtdelhikejgoffaaGreat
theorem sout_do {m : SvM} {x : Sv} (h : SvIs m x) (hb : SvB x) (n : Nat) (hn : n ≤ 65536) : Spec Tryz.prog 25 [ptrC m.p, .int .i64 (n : Int)] (svH m x) (fun r H' => ∃ o c2 tl2 m' x', m'.p = m.p ∧ SvIs m' x' ∧ x'.v = { x.v with out := x.v.out.drop n } ∧ r = .tuple #[slV o (x.v.out.take n).length c2, .int .i64 0] ∧ Own o (x.v.out.take n).length c2 1 (bvs (x.v.out.take n)) tl2 ∧ H' = svH m' x' ++ [⟨o, cl (bvs (x.v.out.take n) ++ tl2) 5⟩]) := by
  have hbo := hb.out
  refine Spec.of (E := [(0, ptrC m.p), (1, .int .i64 (n : Int))]) Tryz.func25 rfl (by kernel_rfl) Tryz.ntmps25 rfl rfl (fun w => ?_)
  refine WC_seq ?_
  refine WC_region ?_
  refine WL_val rfl rfl rfl (R_assign rfl rfl) ?_
  refine WL_val rfl rfl rfl (R_assign rfl rfl) ?_
  refine WL_nil ?_
  refine WQ_code ?_
  refine WC_seq ?_
  refine WC_seq ?_
  refine WC_region ?_
  refine WL_val rfl rfl rfl (R_move rfl rfl) ?_
  refine WL_val rfl rfl rfl (R_ptrEqNil rfl Tryz.underlying25 rfl) ?_
  refine WL_nil ?_
  refine WQ_code ?_
  refine WC_F rfl ?_
  refine WC_skip ?_
  refine WQ_code ?_
  refine WC_seq ?_
  refine WC_region ?_
  refine WL_val rfl rfl rfl (R_move rfl rfl) ?_
  refine WL_val rfl rfl rfl (R_nilCheck rfl rfl) ?_
  refine WL_val rfl rfl rfl (R_fieldAddr rfl fa35_0 rfl) ?_
  refine WL_val rfl rfl rfl (R_move rfl rfl) ?_
  refine WL_do rfl rfl rfl (D_call (take_any m.p 35 _ h.sd.oO n hn (by omega)) rfl rfl rfl rfl (pqD)) ?_
  rintro _ _ ⟨_, ⟨o9, c9, tl9, k9, c8, pre9, rfl, rfl, hO9, own9⟩, rfl⟩
  refine WL_val rfl rfl rfl (R_extract rfl rfl rfl) ?_
  refine WL_val rfl rfl rfl (R_extract rfl rfl rfl) ?_
  refine WL_val rfl rfl rfl (R_assign rfl rfl) ?_
  refine WL_val rfl rfl rfl (R_assign rfl rfl) ?_
  refine WL_nil ?_
  refine WQ_code ?_
  refine WC_ret ?_
  refine WQ_ret rfl rfl (.cons (.tmp rfl) (.cons (.tmp rfl) .nil)) rfl (by
      exact ⟨o9, c9, tl9, { m with sd := { m.sd with ok := k9, oc := c8, op := pre9 } }, { x with s := { x.s with out := x.s.out.drop n } }, rfl, ⟨⟨hO9, h.sd.iO⟩, h.cO, h.eO, h.rO⟩, rfl, rfl, own9, rfl⟩) (pqD)
theorem snext_empty {m : SvM} {x : Sv} (h : SvIs m x) (hb : SvB x) (he : x.qu = []) : Spec Tryz.prog 21 [ptrC m.p] (svH m x) (SPost m.p (x.v, .tuple #[.agg #[.int .i64 0, .int .u64 0, .slice none 0 0], .bool false])) := by
  refine Spec.of (E := [(0, ptrC m.p)]) Tryz.func21 rfl (by kernel_rfl) Tryz.ntmps21 rfl rfl (fun w => ?_)
  refine WC_seq ?_
  refine WC_region ?_
  refine WL_do rfl rfl rfl (D_alloc rfl zv67) ?_
  rintro _ _ ⟨b1, rfl, rfl⟩
  refine WL_val rfl rfl rfl (R_assign rfl rfl) ?_
  refine WL_nil ?_
  refine WQ_code ?_
  refine WC_seq ?_
  refine WC_seq ?_
  refine WC_region ?_
  refine WL_val rfl rfl rfl (R_move rfl rfl) ?_
  refine WL_val rfl rfl rfl (R_ptrEqNil rfl Tryz.underlying25 rfl) ?_
  refine WL_val rfl rfl rfl (R_move rfl rfl) ?_
  refine WL_val rfl rfl rfl (R_move rfl rfl) ?_
  refine WL_val rfl rfl rfl (R_nilCheck rfl rfl) ?_
  refine WL_val rfl rfl rfl (R_fieldAddr rfl fa35_2 rfl) ?_
  refine WL_val rfl rfl rfl (R_load rfl sc33 rfl (mmD) rfl) ?_
  refine WL_val rfl rfl rfl (R_len rfl Tryz.underlying33 rfl) ?_
  refine WL_val rfl rfl rfl (R_eql rfl rfl rfl) ?_
  refine WL_set (s := 12) (v := .bool true) rfl (by rw [he]; rfl) ?_
  refine WL_val rfl rfl rfl (R_pickF rfl rfl rfl) ?_
  refine WL_nil ?_
  refine WQ_code ?_
  refine WC_T rfl ?_
  refine WC_seq ?_
  refine WC_region ?_
  refine WL_val rfl rfl rfl (R_build rfl zv67 pl67 rfl rfl) ?_
  refine WL_do0 rfl rfl (D_store (vs := [_, _, _]) rfl Tryz.sizeOf67 rfl rfl rfl rfl rfl (plD) (by exact Nat.le_of_ble_eq_true rfl)) ?_
  rintro _ _ rfl
  refine WL_val rfl rfl rfl (R_assign rfl rfl) ?_
  refine WL_nil ?_
  refine WQ_code ?_
  refine WC_ret ?_
  refine WQ_ret rfl rfl (.cons (.cell (vs := [_, _, _]) rfl ag67 (mmD) rfl (atZ)) (.cons (.tmp rfl) .nil)) rfl (by
      exact ⟨m, x, rfl, h, rfl, rfl, rfl⟩) (pqD)
theorem OwnS.atQ {ob : Option Nat} {k n c : Nat} {pre tl : List Value} {T : List Rq} (h : OwnS ob k n c 3 pre (T.flatMap encRq) tl) {i : Nat} {x : Rq} (hx : T[i]? = some x) (hi : i < n) : At (pre ++ (T.flatMap encRq ++ tl)) (k + i * 3) (encRq x) := fun j v hj => by
  rw [h.get encRq3 hx hi (by have := (List.getElem?_eq_some_iff.1 hj).1; simpa using this)]; exact hj
theorem snext_take {m : SvM} {x : Sv} (h : SvIs m x) (hb : SvB x) (r0 : Rq) (rest : List Rq) (he : x.qu = r0 :: rest) : Spec Tryz.prog 21 [ptrC m.p] (svH m x) (fun r H' => ∃ m' x', m'.p = m.p ∧ SvIs m' x' ∧ x'.v = { x.v with qu := rest.map Rq.v } ∧ r = .tuple #[.agg #[.int .i64 r0.id, .int .u64 (r0.dl : Int), slV r0.o r0.body.length r0.c], .bool true] ∧ H' = svH m' x' ++ [rqE r0]) := by
  have heO := h.eO
  rw [he] at heO
  obtain ⟨wb, hwb⟩ := heO.some_of (Nat.succ_pos _)
  have hlen : x.qu.length = rest.length + 1 := by rw [he]; rfl
  refine Spec.of (E := [(0, ptrC m.p)]) Tryz.func21 rfl (by kernel_rfl) Tryz.ntmps21 rfl rfl (fun w => ?_)
  refine WC_seq ?_
  refine WC_region ?_
  refine WL_do rfl rfl rfl (D_alloc rfl zv67) ?_
  rintro _ _ ⟨b1, rfl, rfl⟩
  refine WL_val rfl rfl rfl (R_assign rfl rfl) ?_
  refine WL_nil ?_
  refine WQ_code ?_
  refine WC_seq ?_
  refine WC_seq ?_
  refine WC_region ?_
  refine WL_val rfl rfl rfl (R_move rfl rfl) ?_
  refine WL_val rfl rfl rfl (R_ptrEqNil rfl Tryz.underlying25 rfl) ?_
  refine WL_val rfl rfl rfl (R_move rfl rfl) ?_
  refine WL_val rfl rfl rfl (R_move rfl rfl) ?_
  refine WL_val rfl rfl rfl (R_nilCheck rfl rfl) ?_
  refine WL_val rfl rfl rfl (R_fieldAddr rfl fa35_2 rfl) ?_
  refine WL_val rfl rfl rfl (R_load rfl sc33 rfl (mmD) rfl) ?_
  refine WL_val rfl rfl rfl (R_len rfl Tryz.underlying33 rfl) ?_
  refine WL_val rfl rfl rfl (R_eql rfl rfl rfl) ?_
  refine WL_set (s := 12) (v := .bool false) rfl (by rw [he]; rfl) ?_
  refine WL_val rfl rfl rfl (R_pickF rfl rfl rfl) ?_
  refine WL_nil ?_
  refine WQ_code ?_
  refine WC_F rfl ?_
  refine WC_skip ?_
  refine WQ_code ?_
  refine WC_seq ?_
  refine WC_drawY [⟨some b1, _⟩, ⟨some m.p, _⟩] [(m.p, 6, sVal m.eb m.ek x.qu.length m.ec)] [15] [(0, false), (1, false), (2, false), (3, false), (4, true), (5, false), (6, false), (7, false), (8, false), (9, false), (10, true)] [(11, true), (12, false), (13, true), (14, true), (15, false)] followsMixed rfl rfl (by kernel_rfl) (pqD) (.cons (mmD) rfl .nil) ?_
  refine WYE_val rfl rfl rfl rfl (R_move rfl rfl) ?_
  refine WYE_val rfl rfl rfl rfl (R_move rfl rfl) ?_
  refine WYE_val rfl rfl rfl rfl (R_nilCheck rfl rfl) ?_
  refine WYE_val rfl rfl rfl rfl (R_fieldAddr rfl fa35_2 rfl) ?_
  refine WYE_early rfl rfl rfl rfl rfl sc33 rfl (by repeat (first | exact List.Mem.head _ | refine List.Mem.tail _ ?_)) ?_
  refine WYE_val rfl rfl rfl rfl (R_indexS (i := 0) hwb rfl Tryz.underlying33 Tryz.sizeOf67 rfl rfl (by omega)) ?_
  refine WYE_val rfl rfl rfl rfl (R_loadAO (vs := [.int .i64 r0.id, .int .u64 (r0.dl : Int), slV r0.o r0.body.length r0.c]) hwb rfl ag67 rfl (mmD) rfl (h.eO.atQ (i := 0) (x := r0) (by rw [he]; rfl) (by omega))) ?_
  refine WYE_val rfl rfl rfl rfl (R_move rfl rfl) ?_
  refine WYE_val rfl rfl rfl rfl (R_nilCheck rfl rfl) ?_
  refine WYE_val rfl rfl rfl rfl (R_fieldAddr rfl fa35_2 rfl) ?_
  refine WYE_early rfl rfl rfl rfl rfl sc33 rfl (by repeat (first | exact List.Mem.head _ | refine List.Mem.tail _ ?_)) ?_
  refine WYE_rest ?_
  refine WY_val rfl rfl rfl rfl (R_cut1 (m := rest.length) hwb rfl Tryz.underlying33 Tryz.sizeOf67 rfl rfl hlen) ?_
  refine WY_do0 rfl rfl rfl (D_store (vs := [_, _, _]) rfl Tryz.sizeOf67 rfl rfl rfl rfl rfl (plD) (by exact Nat.le_of_ble_eq_true rfl)) ?_
  rintro _ _ rfl
  refine ⟨⟨_, pqD⟩, .inr (.cons (mmD) rfl .nil), ?_⟩
  refine WY_val rfl rfl rfl rfl (R_nilCheck rfl rfl) ?_
  refine WY_val rfl rfl rfl rfl (R_fieldAddr rfl fa35_2 rfl) ?_
  refine WY_do0 rfl rfl rfl (D_store (vs := [_]) rfl Tryz.sizeOf33 rfl rfl rfl rfl rfl (plD) (by exact Nat.le_of_ble_eq_true rfl)) ?_
  rintro _ _ rfl
  refine ⟨⟨_, pqD⟩, .inl rfl, ?_⟩
  refine WY_nil ?_
  refine WQ_code ?_
  refine WC_seq ?_
  refine WC_region ?_
  refine WL_val rfl rfl rfl (R_loadA (vs := [_, _, _]) rfl ag67 rfl (mmD) rfl (atZ)) ?_
  refine WL_do0 rfl rfl (D_store (vs := [_, _, _]) rfl Tryz.sizeOf67 rfl rfl rfl rfl rfl (plD) (by exact Nat.le_of_ble_eq_true rfl)) ?_
  rintro _ _ rfl
  refine WL_val rfl rfl rfl (R_assign rfl rfl) ?_
  refine WL_nil ?_
  refine WQ_code ?_
  refine WC_ret ?_
  rw [show svQ m x = (⟨m.eb, cl ((m.epre ++ encRq r0) ++ (rest.flatMap encRq ++ m.etl)) 67⟩ : Ent) from by unfold svQ; rw [he]; simp, show rqH x.qu = rqE r0 :: rqH rest from by rw [he]; rfl]
  refine WQ_ret rfl rfl (.cons (.cell (vs := [_, _, _]) rfl ag67 (mmD) rfl (atZ)) (.cons (.tmp rfl) .nil)) rfl (by
      exact ⟨{ m with ek := if m.ec = 1 then m.ek else m.ek + 3, ec := m.ec - 1, epre := m.epre ++ encRq r0 }, { x with qu := rest }, rfl, ⟨h.sd, h.cO, heO.cut (ys := encRq r0) (zs := rest.flatMap encRq) (m := rest.length) rfl rfl rfl, fun r hr => h.rO r (by rw [he]; exact List.mem_cons_of_mem _ hr)⟩, rfl, rfl, rfl⟩) (pqD)
theorem iclone_ok_none {l : List Int} (hl : l.length ≤ 1000000) {o : Option Nat} {c : Nat} {tl : List Value} (own : Own o l.length c 1 (ivs l) tl) (ho : o = none) : Spec Tryz.prog 28 [slV o l.length c] [⟨o, cl (ivs l ++ tl) 3⟩] (fun r H' => r = .slice none 0 0 ∧ H' = [⟨o, cl (ivs l ++ tl) 3⟩]) := by
  refine Spec.of (E := [(0, slV o l.length c)]) Tryz.func28 rfl (by kernel_rfl) Tryz.ntmps28 rfl rfl (fun w => ?_)
  refine WC_seq ?_
  refine WC_region ?_
  refine WL_val rfl rfl rfl (R_assign rfl rfl) ?_
  refine WL_nil ?_
  refine WQ_code ?_
  refine WC_seq ?_
  refine WC_seq ?_
  refine WC_region ?_
  refine WL_val rfl rfl rfl (R_move rfl rfl) ?_
  refine WL_val rfl rfl rfl (R_sliceEqNil rfl Tryz.underlying32 rfl) ?_
  refine WL_set (s := 4) (v := .bool true) rfl (by rw [ho]; rfl) ?_
  refine WL_nil ?_
  refine WQ_code ?_
  refine WC_T rfl ?_
  refine WC_seq ?_
  refine WC_region ?_
  refine WL_val rfl rfl rfl (R_assign rfl rfl) ?_
  refine WL_nil ?_
  refine WQ_code ?_
  refine WC_ret ?_
  refine WQ_ret rfl rfl (.cons (.tmp rfl) .nil) rfl (by
      exact ⟨rfl, rfl⟩) (pqD)
theorem iclone_ok {l : List Int} (hl : l.length ≤ 1000000) {o : Option Nat} {c : Nat} {tl : List Value} (own : Own o l.length c 1 (ivs l) tl) : Spec Tryz.prog 28 [slV o l.length c] [⟨o, cl (ivs l ++ tl) 3⟩] (fun r H' => ∃ o2 c2 tl2, r = slV o2 l.length c2 ∧ Own o2 l.length c2 1 (ivs l) tl2 ∧ H' = [⟨o2, cl (ivs l ++ tl2) 3⟩] ++ [⟨o, cl (ivs l ++ tl) 3⟩]) := by
  cases ho : o with
  | none =>
    have h1 := iclone_ok_none hl own ho
    subst ho
    obtain ⟨h0, rfl, h2, rfl⟩ := own.void'
    have hl0 : l = [] := List.eq_nil_of_length_eq_zero h0
    subst hl0
    exact fr_none 3 h1 fun r H' ⟨e1, e2⟩ => ⟨_, .refl _, none, 0, [], by rw [e1]; rfl, Own.empty 1, by rw [e2]; rfl⟩
  | some wa =>
    subst ho
    refine Spec.of (E := [(0, slV (some wa) l.length c)]) Tryz.func28 rfl (by kernel_rfl) Tryz.ntmps28 rfl rfl (fun w => ?_)
    refine WC_seq ?_
    refine WC_region ?_
    refine WL_val rfl rfl rfl (R_assign rfl rfl) ?_
    refine WL_nil ?_
    refine WQ_code ?_
    refine WC_seq ?_
    refine WC_seq ?_
    refine WC_region ?_
    refine WL_val rfl rfl rfl (R_move rfl rfl) ?_
    refine WL_val rfl rfl rfl (R_sliceEqNil rfl Tryz.underlying32 rfl) ?_
    refine WL_nil ?_
    refine WQ_code ?_
    refine WC_F rfl ?_
    refine WC_skip ?_
    refine WQ_code ?_
    refine WC_seq ?_
    refine WC_region ?_
    refine WL_do rfl rfl rfl (D_buildSlice rfl si32 rfl rfl rfl) ?_
    rintro _ _ ⟨b1, rfl, rfl⟩
    refine WL_val rfl rfl rfl (R_move rfl rfl) ?_
    refine WL_do rfl rfl rfl (D_appendO rfl si32 rfl (⟨by simp, by simp, by simp, by simp, (fun h => by cases h)⟩ : Own (some b1) 0 0 1 [] []) plD rfl own mmD (ivs_one _) (by omega) (by omega)) ?_
    rintro _ _ ⟨ob2, c2, tl2, rfl, own2, rfl⟩
    rw [Nat.zero_add, List.nil_append] at own2
    refine WL_val rfl rfl rfl (R_assign rfl rfl) ?_
    refine WL_nil ?_
    refine WQ_code ?_
    refine WC_ret ?_
    refine WQ_ret rfl rfl (.cons (.tmp rfl) .nil) rfl (by
        exact ⟨ob2, c2, tl2, by rw [Nat.zero_add]; rfl, own2, rfl⟩) (pqD)
theorem cclone_ok_none {l : List Ca} (hl : l.length ≤ 1000000) {o : Option Nat} {c : Nat} {tl : List Value} (own : Own o l.length c 2 (l.flatMap encC) tl) (ho : o = none) : Spec Tryz.prog 74 [slV o l.length c] [⟨o, cl (l.flatMap encC ++ tl) 96⟩] (fun r H' => r = .slice none 0 0 ∧ H' = [⟨o, cl (l.flatMap encC ++ tl) 96⟩]) := by
  refine Spec.of (E := [(0, slV o l.length c)]) Tryz.func74 rfl (by kernel_rfl) Tryz.ntmps74 rfl rfl (fun w => ?_)
  refine WC_seq ?_
  refine WC_region ?_
  refine WL_val rfl rfl rfl (R_assign rfl rfl) ?_
  refine WL_nil ?_
  refine WQ_code ?_
  refine WC_seq ?_
  refine WC_seq ?_
  refine WC_region ?_
  refine WL_val rfl rfl rfl (R_move rfl rfl) ?_
  refine WL_val rfl rfl rfl (R_sliceEqNil rfl Tryz.underlying48 rfl) ?_
  refine WL_set (s := 4) (v := .bool true) rfl (by rw [ho]; rfl) ?_
  refine WL_nil ?_
  refine WQ_code ?_
  refine WC_T rfl ?_
  refine WC_seq ?_
  refine WC_region ?_
  refine WL_val rfl rfl rfl (R_assign rfl rfl) ?_
  refine WL_nil ?_
  refine WQ_code ?_
  refine WC_ret ?_
  refine WQ_ret rfl rfl (.cons (.tmp rfl) .nil) rfl (by
      exact ⟨rfl, rfl⟩) (pqD)
theorem cclone_ok {l : List Ca} (hl : l.length ≤ 1000000) {o : Option Nat} {c : Nat} {tl : List Value} (own : Own o l.length c 2 (l.flatMap encC) tl) : Spec Tryz.prog 74 [slV o l.length c] [⟨o, cl (l.flatMap encC ++ tl) 96⟩] (fun r H' => ∃ o2 c2 tl2, r = slV o2 l.length c2 ∧ Own o2 l.length c2 2 (l.flatMap encC) tl2 ∧ H' = [⟨o2, cl (l.flatMap encC ++ tl2) 96⟩] ++ [⟨o, cl (l.flatMap encC ++ tl) 96⟩]) := by
  cases ho : o with
  | none =>
    have h1 := cclone_ok_none hl own ho
    subst ho
    obtain ⟨h0, rfl, h2, rfl⟩ := own.void'
    have hl0 : l = [] := List.eq_nil_of_length_eq_zero h0
    subst hl0
    exact fr_none 96 h1 fun r H' ⟨e1, e2⟩ => ⟨_, .refl _, none, 0, [], by rw [e1]; rfl, Own.empty 2, by rw [e2]; rfl⟩
  | some wa =>
    subst ho
    refine Spec.of (E := [(0, slV (some wa) l.length c)]) Tryz.func74 rfl (by kernel_rfl) Tryz.ntmps74 rfl rfl (fun w => ?_)
    refine WC_seq ?_
    refine WC_region ?_
    refine WL_val rfl rfl rfl (R_assign rfl rfl) ?_
    refine WL_nil ?_
    refine WQ_code ?_
    refine WC_seq ?_
    refine WC_seq ?_
    refine WC_region ?_
    refine WL_val rfl rfl rfl (R_move rfl rfl) ?_
    refine WL_val rfl rfl rfl (R_sliceEqNil rfl Tryz.underlying48 rfl) ?_
    refine WL_nil ?_
    refine WQ_code ?_
    refine WC_F rfl ?_
    refine WC_skip ?_
    refine WQ_code ?_
    refine WC_seq ?_
    refine WC_region ?_
    refine WL_do rfl rfl rfl (D_buildSlice rfl si48 rfl rfl rfl) ?_
    rintro _ _ ⟨b1, rfl, rfl⟩
    refine WL_val rfl rfl rfl (R_move rfl rfl) ?_
    refine WL_do rfl rfl rfl (D_appendO rfl si48 rfl (⟨by simp, by simp, by simp, by simp, (fun h => by cases h)⟩ : Own (some b1) 0 0 2 [] []) plD rfl own mmD (encC_one _) (by omega) (by omega)) ?_
    rintro _ _ ⟨ob2, c2, tl2, rfl, own2, rfl⟩
    rw [Nat.zero_add, List.nil_append] at own2
    refine WL_val rfl rfl rfl (R_assign rfl rfl) ?_
    refine WL_nil ?_
    refine WQ_code ?_
    refine WC_ret ?_
    refine WQ_ret rfl rfl (.cons (.tmp rfl) .nil) rfl (by
        exact ⟨ob2, c2, tl2, by rw [Nat.zero_add]; rfl, own2, rfl⟩) (pqD)
theorem sopen_ok {m : SvM} {x : Sv} (h : SvIs m x) (hb : SvB x)  : Spec Tryz.prog 9 [ptrC m.p] (svH m x) (fun r H' => ∃ o c tl, r = slV o x.opn.length c ∧ Own o x.opn.length c 1 (ivs x.opn) tl ∧ H' = svH m x ++ [⟨o, cl (ivs x.opn ++ tl) 3⟩]) := by
  have hop := hb.opn
  have hqu := hb.qu
  have hbo := hb.out
  refine Spec.of (E := [(0, ptrC m.p)]) Tryz.func9 rfl (by kernel_rfl) Tryz.ntmps9 rfl rfl (fun w => ?_)
  refine WC_seq ?_
  refine WC_region ?_
  refine WL_val rfl rfl rfl (R_assign rfl rfl) ?_
  refine WL_nil ?_
  refine WQ_code ?_
  refine WC_seq ?_
  refine WC_seq ?_
  refine WC_region ?_
  refine WL_val rfl rfl rfl (R_move rfl rfl) ?_
  refine WL_val rfl rfl rfl (R_ptrEqNil rfl Tryz.underlying25 rfl) ?_
  refine WL_nil ?_
  refine WQ_code ?_
  refine WC_F rfl ?_
  refine WC_skip ?_
  refine WQ_code ?_
  refine WC_seq ?_
  refine WC_region ?_
  refine WL_val rfl rfl rfl (R_move rfl rfl) ?_
  refine WL_val rfl rfl rfl (R_nilCheck rfl rfl) ?_
  refine WL_val rfl rfl rfl (R_fieldAddr rfl fa35_1 rfl) ?_
  refine WL_val rfl rfl rfl (R_load rfl sc32 rfl (mmD) rfl) ?_
  refine WL_do rfl rfl rfl (D_call (iclone_ok (by omega) h.cO) rfl rfl rfl rfl (pqD)) ?_
  rintro _ _ ⟨_, ⟨o9, c9, tl9, rfl, own9, rfl⟩, rfl⟩
  refine WL_val rfl rfl rfl (R_assign rfl rfl) ?_
  refine WL_nil ?_
  refine WQ_code ?_
  refine WC_ret ?_
  refine WQ_ret rfl rfl (.cons (.tmp rfl) .nil) rfl (by
      exact ⟨o9, c9, tl9, rfl, own9, rfl⟩) (pqD)
end Go.Proofs.YtdelhikejgoffaaGreat
end
section
set_option linter.unusedVariables false
set_option maxRecDepth 20000
set_option maxHeartbeats 4000000
namespace Go.Proofs.YtdelhikejgoffaaGreat
theorem own_nil {ob : Option Nat} {k n c sz : Nat} {pre xs tl : List Value} (h : OwnS ob k n c sz pre xs tl) : (ob.map fun b => (⟨b, k, none⟩ : Addr)) = none → c = 0 := fun e => by
  cases hq : ob with
  | none => exact (h.nil hq).1
  | some b => rw [hq] at e; cases e
theorem rsH_mem {r : Rs} {l : List Rs} (h : r ∈ l) : ∃ G, (rsH l).Perm (rsE r :: G) := by
  obtain ⟨a, b, rfl⟩ := List.append_of_mem h
  exact ⟨rsH a ++ rsH b, by unfold rsH; rw [List.map_append, List.map_cons]; exact List.perm_middle⟩
theorem rcopy_ok (p ty : Nat) (a0 : Value) (rb : Int) (Z : List Value) {bs : Bs} {ob : Option Nat} {k c : Nat} {pre tl : List Value} (hO : OwnS ob k bs.length c 1 pre (bvs bs) tl) (hl : bs.length ≤ 1000000) : Spec Tryz.prog 92 [.pointer (some ⟨p, 1, none⟩)] [⟨some p, cl (a0 :: sVal ob k bs.length c :: .int .i64 rb :: Z) ty⟩, ⟨ob, cl (pre ++ (bvs bs ++ tl)) 5⟩]
    (fun r H' => ∃ b o2 c2 tl2, r = .pointer (some ⟨b, 0, none⟩) ∧ Own o2 bs.length c2 1 (bvs bs) tl2 ∧ H' = [⟨some b, cl [slV o2 bs.length c2, .int .i64 rb] 29⟩, ⟨o2, cl (bvs bs ++ tl2) 5⟩, ⟨some p, cl (a0 :: sVal ob k bs.length c :: .int .i64 rb :: Z) ty⟩, ⟨ob, cl (pre ++ (bvs bs ++ tl)) 5⟩]) := by
  refine Spec.of (E := [(0, .pointer (some ⟨p, 1, none⟩))]) Tryz.func92 rfl (by kernel_rfl) Tryz.ntmps92 rfl rfl (fun w => ?_)
  refine WC_seq ?_
  refine WC_region ?_
  refine WL_val rfl rfl rfl (R_assign rfl rfl) ?_
  refine WL_nil ?_
  refine WQ_code ?_
  refine WC_seq ?_
  refine WC_seq ?_
  refine WC_region ?_
  refine WL_val rfl rfl rfl (R_move rfl rfl) ?_
  refine WL_val rfl rfl rfl (R_ptrEqNil rfl Tryz.underlying146 rfl) ?_
  refine WL_nil ?_
  refine WQ_code ?_
  refine WC_F rfl ?_
  refine WC_skip ?_
  refine WQ_code ?_
  refine WC_seq ?_
  refine WC_draw _ [(0, true), (1, true), (2, true), (3, true), (5, true), (6, true), (7, true), (8, true), (4, false), (9, true), (10, false), (11, true)] followsMixed rfl rfl (by kernel_rfl) .all ?_
  refine WM_val rfl rfl rfl rfl (R_move rfl rfl) ?_
  refine WM_val rfl rfl rfl rfl (R_nilCheck rfl rfl) ?_
  refine WM_val rfl rfl rfl rfl (R_fieldAddr rfl fa29_0 rfl) ?_
  refine WM_val rfl rfl rfl rfl (R_load rfl sc26 rfl (mmD) rfl) ?_
  refine WM_val rfl rfl rfl rfl (R_move rfl rfl) ?_
  refine WM_val rfl rfl rfl rfl (R_nilCheck rfl rfl) ?_
  refine WM_val rfl rfl rfl rfl (R_fieldAddr rfl fa29_1 rfl) ?_
  refine WM_val rfl rfl rfl rfl (R_load rfl sc27 rfl (mmD) rfl) ?_
  refine WM_do rfl rfl rfl rfl (D_call (clone_any (RdB.ownS hO) hl (own_nil hO)) rfl rfl rfl rfl (pqD)) ?_
  rintro _ _ ⟨_, ⟨o9, c9, tl9, rfl, own9, rfl⟩, rfl⟩
  refine ⟨⟨_, pqD⟩, ?_⟩
  refine WM_val rfl rfl rfl rfl (R_build rfl zv29 pl29 rfl rfl) ?_
  refine WM_do rfl rfl rfl rfl (D_box (cs := [_, _]) rfl rfl rfl) ?_
  rintro _ _ ⟨b1, rfl, rfl⟩
  refine ⟨⟨_, pqD⟩, ?_⟩
  refine WM_val rfl rfl rfl rfl (R_assign rfl rfl) ?_
  refine WM_nil ?_
  refine WQ_code ?_
  refine WC_ret ?_
  refine WQ_ret rfl rfl (.cons (.tmp rfl) .nil) rfl (by
      exact ⟨_, o9, c9, tl9, rfl, own9, rfl⟩) (pqD)
theorem copied_ok (p ty : Nat) {s : Sd} {m : SdM} (h : SdIs m s) (hl1 : s.out.length ≤ 1000000) (hl2 : s.bs.length ≤ 1000000) (Z : List Value) : Spec Tryz.prog 61 [ptrC p] [⟨some p, cl (sVal m.ob m.ok s.out.length m.oc :: sVal m.ib m.ik s.bs.length m.ic :: .int .i64 s.rb :: .int .i64 (s.last : Int) :: .int .i64 s.br :: Z) ty⟩, oE m s, iE m s]
    (fun r H' => ∃ o1 c1 t1 o2 c2 t2, r = .agg #[slV o1 s.out.length c1, slV o2 s.bs.length c2, .int .i64 s.rb, .int .i64 (s.last : Int), .int .i64 s.br] ∧ Own o1 s.out.length c1 1 (bvs s.out) t1 ∧ Own o2 s.bs.length c2 1 (bvs s.bs) t2 ∧
      H' = [⟨o1, cl (bvs s.out ++ t1) 5⟩, ⟨o2, cl (bvs s.bs ++ t2) 5⟩] ++ [⟨some p, cl (sVal m.ob m.ok s.out.length m.oc :: sVal m.ib m.ik s.bs.length m.ic :: .int .i64 s.rb :: .int .i64 (s.last : Int) :: .int .i64 s.br :: Z) ty⟩, oE m s, iE m s]) := by
  refine Spec.of (E := [(0, ptrC p)]) Tryz.func61 rfl (by kernel_rfl) Tryz.ntmps61 rfl rfl (fun w => ?_)
  refine WC_seq ?_
  refine WC_region ?_
  refine WL_do rfl rfl rfl (D_alloc rfl zv31) ?_
  rintro _ _ ⟨b1, rfl, rfl⟩
  refine WL_nil ?_
  refine WQ_code ?_
  refine WC_seq ?_
  refine WC_drawR [⟨some b1, _⟩] [(0, true), (1, true), (2, true), (3, true), (5, true), (6, true), (7, true), (11, true), (12, true), (13, true), (14, true), (15, true), (16, true), (17, true), (18, true), (4, false), (8, false), (9, true), (10, false), (19, true), (20, false)] followsMixed rfl rfl (by kernel_rfl) (pqD) ?_
  refine WM_val rfl rfl rfl rfl (R_move rfl rfl) ?_
  refine WM_val rfl rfl rfl rfl (R_nilCheck rfl rfl) ?_
  refine WM_val rfl rfl rfl rfl (R_fieldAddr rfl fa31_0 rfl) ?_
  refine WM_val rfl rfl rfl rfl (R_load rfl sc26 rfl (mmD) rfl) ?_
  refine WM_val rfl rfl rfl rfl (R_move rfl rfl) ?_
  refine WM_val rfl rfl rfl rfl (R_nilCheck rfl rfl) ?_
  refine WM_val rfl rfl rfl rfl (R_fieldAddr rfl fa31_1 rfl) ?_
  refine WM_val rfl rfl rfl rfl (R_move rfl rfl) ?_
  refine WM_val rfl rfl rfl rfl (R_nilCheck rfl rfl) ?_
  refine WM_val rfl rfl rfl rfl (R_fieldAddr rfl fa31_2 rfl) ?_
  refine WM_val rfl rfl rfl rfl (R_load rfl sc3 rfl (mmD) rfl) ?_
  refine WM_val rfl rfl rfl rfl (R_move rfl rfl) ?_
  refine WM_val rfl rfl rfl rfl (R_nilCheck rfl rfl) ?_
  refine WM_val rfl rfl rfl rfl (R_fieldAddr rfl fa31_3 rfl) ?_
  refine WM_val rfl rfl rfl rfl (R_load rfl sc27 rfl (mmD) rfl) ?_
  refine WM_do rfl rfl rfl rfl (D_call (clone_any (RdB.ownS h.oO) hl1 (own_nil h.oO)) rfl rfl rfl rfl (pqD)) ?_
  rintro _ _ ⟨_, ⟨o9, c9, tl9, rfl, own9, rfl⟩, rfl⟩
  refine ⟨⟨_, pqD⟩, ?_⟩
  refine WM_do rfl rfl rfl rfl (D_call (rcopy_ok p ty _ _ _ h.iO hl2) rfl rfl rfl rfl (pqD)) ?_
  rintro _ _ ⟨_, ⟨b8, o8, c8, tl8, rfl, own8, rfl⟩, rfl⟩
  refine ⟨⟨_, pqD⟩, ?_⟩
  refine WM_val rfl rfl rfl rfl (R_nilCheck rfl rfl) ?_
  refine WM_do rfl rfl rfl rfl (Runs.does (R_loadA (vs := [_, _]) rfl ag29 rfl (mmD) rfl (atZ))) ?_
  rintro _ _ ⟨rfl, rfl⟩
  refine ⟨⟨_, pqD⟩, ?_⟩
  refine WM_val rfl rfl rfl rfl (R_build rfl zv31 pl31 rfl rfl) ?_
  refine WM_do0 rfl rfl rfl (D_store (vs := [_, _, _, _, _]) rfl Tryz.sizeOf31 rfl rfl rfl rfl rfl (plD) (by exact Nat.le_of_ble_eq_true rfl)) ?_
  rintro _ _ rfl
  refine ⟨⟨_, pqD⟩, ?_⟩
  refine WM_nil ?_
  refine WQ_code ?_
  refine WC_ret ?_
  refine WQ_ret rfl rfl (.cons (.cell (vs := [_, _, _, _, _]) rfl ag31 (mmD) rfl (atZ)) .nil) rfl (by
      exact ⟨o9, c9, tl9, o8, c8, tl8, rfl, own9, own8, rfl⟩) (pqD)
structure CpW where
  k : Nat
  ns : List Rs
  eb : Option Nat
  ek : Nat
  ec : Nat
  epre : List Value
  etl : List Value
theorem copy_ok {m : ClM} {x : Cl} (h : ClIs m x) (hb : ClB x) (hbody : ∀ r ∈ x.res, r.body.length ≤ 1000000) : Spec Tryz.prog 38 [ptrC m.p] (clH m x) (fun r H' => ∃ m' x', r = ptrC m'.p ∧ ClIs m' x' ∧ x'.v = x.v ∧ H' = clH m' x' ++ clH m x) := by
  have hbc := hb.calls
  have hbr := hb.res
  have hbo := hb.out
  have hbb := hb.bs
  refine Spec.of (E := [(0, ptrC m.p)]) Tryz.func38 rfl (by kernel_rfl) Tryz.ntmps38 rfl rfl (fun w => ?_)
  refine WC_seq ?_
  refine WC_region ?_
  refine WL_val rfl rfl rfl (R_assign rfl rfl) ?_
  refine WL_nil ?_
  refine WQ_code ?_
  refine WC_seq ?_
  refine WC_seq ?_
  refine WC_region ?_
  refine WL_val rfl rfl rfl (R_move rfl rfl) ?_
  refine WL_val rfl rfl rfl (R_ptrEqNil rfl Tryz.underlying47 rfl) ?_
  refine WL_nil ?_
  refine WQ_code ?_
  refine WC_F rfl ?_
  refine WC_skip ?_
  refine WQ_code ?_
  refine WC_seq ?_
  refine WC_draw _ [(0, true), (1, true), (2, true), (4, true), (5, true), (6, true), (7, true), (8, true), (9, true), (10, true), (11, true), (13, true), (14, true), (15, true), (16, true), (3, false), (12, false), (17, true), (18, false), (19, true)] followsMixed rfl rfl (by kernel_rfl) .all ?_
  refine WM_val rfl rfl rfl rfl (R_move rfl rfl) ?_
  refine WM_val rfl rfl rfl rfl (R_nilCheck rfl rfl) ?_
  refine WM_val rfl rfl rfl rfl (R_fieldAddr rfl fa51_0 rfl) ?_
  refine WM_val rfl rfl rfl rfl (R_move rfl rfl) ?_
  refine WM_val rfl rfl rfl rfl (R_nilCheck rfl rfl) ?_
  refine WM_val rfl rfl rfl rfl (R_fieldAddr rfl fa51_1 rfl) ?_
  refine WM_val rfl rfl rfl rfl (R_load rfl sc41 rfl (mmD) rfl) ?_
  refine WM_val rfl rfl rfl rfl (R_move rfl rfl) ?_
  refine WM_val rfl rfl rfl rfl (R_nilCheck rfl rfl) ?_
  refine WM_val rfl rfl rfl rfl (R_fieldAddr rfl fa51_2 rfl) ?_
  refine WM_val rfl rfl rfl rfl (R_load rfl sc48 rfl (mmD) rfl) ?_
  refine WM_val rfl rfl rfl rfl (R_move rfl rfl) ?_
  refine WM_val rfl rfl rfl rfl (R_nilCheck rfl rfl) ?_
  refine WM_val rfl rfl rfl rfl (R_fieldAddr rfl fa51_4 rfl) ?_
  refine WM_val rfl rfl rfl rfl (R_load rfl sc4 rfl (mmD) rfl) ?_
  refine WM_do rfl rfl rfl rfl (D_call (copied_ok m.p 51 h.sd (by omega) (by omega) _) rfl rfl rfl rfl (pqD)) ?_
  rintro _ _ ⟨_, ⟨o1, cR1, t1, o2, cR2, t2, rfl, own1, own2, rfl⟩, rfl⟩
  refine ⟨⟨_, pqD⟩, ?_⟩
  refine WM_do rfl rfl rfl rfl (D_call (cclone_ok (by omega) h.cO) rfl rfl rfl rfl (pqD)) ?_
  rintro _ _ ⟨_, ⟨o3, cR3, t3, rfl, own3, rfl⟩, rfl⟩
  refine ⟨⟨_, pqD⟩, ?_⟩
  refine WM_val rfl rfl rfl rfl (R_build rfl zv51 pl51 rfl rfl) ?_
  refine WM_do rfl rfl rfl rfl (D_box (cs := [_, _, _, _, _, _, _, _, _]) rfl rfl rfl) ?_
  rintro _ _ ⟨b1, rfl, rfl⟩
  refine ⟨⟨_, pqD⟩, ?_⟩
  refine WM_val rfl rfl rfl rfl (R_assign rfl rfl) ?_
  refine WM_nil ?_
  refine WQ_code ?_
  refine WC_seq ?_
  refine WC_seq ?_
  refine WC_region ?_
  refine WL_val rfl rfl rfl (R_move rfl rfl) ?_
  refine WL_val rfl rfl rfl (R_nilCheck rfl rfl) ?_
  refine WL_val rfl rfl rfl (R_fieldAddr rfl fa51_3 rfl) ?_
  refine WL_val rfl rfl rfl (R_load rfl sc49 rfl (mmD) rfl) ?_
  refine WL_val rfl rfl rfl (R_len rfl Tryz.underlying49 rfl) ?_
  refine WL_val rfl rfl rfl (R_move rfl rfl) ?_
  refine WL_nil ?_
  refine WQ_code ?_
  refine WC_block ?_
  refine WC_none 89 ?_
  refine WC_loopF (G := CpW) [5, 32, 33, 34, 35, 36, 37, 38, 39, 40, 41, 42, 43, 44, 45, 46, 47, 48, 49, 50] (fun y => y.k ≤ x.res.length ∧ y.ns.map Rs.v = (x.res.take y.k).map Rs.v ∧ (∀ r ∈ y.ns, rsOk r) ∧ y.ns.length = y.k ∧ OwnS y.eb y.ek y.ns.length y.ec 3 y.epre (y.ns.flatMap encRs) y.etl) (fun y => [(32, .int .i64 (y.k : Int))]) (fun y => [⟨some b1, cl [slV o1 x.s.out.length cR1, slV o2 x.s.bs.length cR2, .int .i64 x.s.rb, .int .i64 (x.s.last : Int), .int .i64 x.s.br, .int .u64 (x.now : Int), slV o3 x.calls.length cR3, sVal y.eb y.ek y.ns.length y.ec, .bool x.closed] 51⟩, ⟨y.eb, cl (y.epre ++ (y.ns.flatMap encRs ++ y.etl)) 89⟩] ++ rsH y.ns) (fun y => x.res.length - y.k) (⟨0, [], none, 0, 0, [], []⟩) (⟨Nat.zero_le _, rfl, (fun r hr => by cases hr), rfl, OwnS.empty 3⟩) leZ (pqD) ?_
  rintro y ⟨hk, hv, hok, hnl, hE⟩
  refine WC_seq ?_
  refine WC_region ?_
  refine WL_val rfl rfl rfl (R_lss rfl rfl rfl) ?_
  refine WL_nil ?_
  refine WQ_code ?_
  refine WC_seq ?_
  refine WC_dec rfl (fun c1 => ?_) (fun c1 => ?_)
  · refine WC_skip ?_
    refine WQ_code ?_
    refine WC_seq ?_
    refine WC_block ?_
    refine WC_seq ?_
    refine WC_region ?_
    obtain ⟨r0, hx⟩ := getE (T := x.res) (i := y.k) (by omega)
    have hmem := List.mem_of_getElem? hx
    obtain ⟨wb, hwb⟩ := h.eO.some_of (by omega)
    have hr0 := h.rO r0 hmem
    obtain ⟨G9, hG9⟩ := rsH_mem hmem
    refine WL_val rfl rfl rfl (R_indexS (i := y.k) hwb rfl Tryz.underlying49 Tryz.sizeOf89 rfl rfl (by omega)) ?_
    refine WL_val rfl rfl rfl (R_loadAO (vs := [.int .i64 r0.id, .int .i64 r0.code, slV r0.o r0.body.length r0.c]) hwb rfl ag89 rfl (mmD) rfl (h.eO.atR (i := y.k) (x := r0) hx (by omega))) ?_
    refine WL_do rfl rfl rfl (D_alloc rfl zv89) ?_
    rintro _ _ ⟨b2, rfl, rfl⟩
    refine WL_do0 rfl rfl (D_store (vs := [_, _, _]) rfl Tryz.sizeOf89 rfl rfl rfl rfl rfl (plD) (by exact Nat.le_of_ble_eq_true rfl)) ?_
    rintro _ _ rfl
    refine WL_nil ?_
    refine WQ_code ?_
    refine WC_seq ?_
    refine WC_region ?_
    refine WL_val rfl rfl rfl (R_fieldAddr rfl fa89_2 rfl) ?_
    refine WL_val rfl rfl rfl (R_load rfl sc26 rfl (mmD) rfl) ?_
    refine WLshp (A := rsH x.res) (A' := rsE r0 :: G9) pqD hG9 ?_
    refine WL_do rfl rfl rfl (D_call (clone_any (RdB.own hr0) (hbody r0 hmem) (own_nil (OwnS.of hr0))) rfl rfl rfl rfl (pqD)) ?_
    rintro _ _ ⟨_, ⟨o8, c8, tl8, rfl, own8, rfl⟩, rfl⟩
    refine WLshp (A := rsE r0 :: G9) (A' := rsH x.res) pqD hG9.symm ?_
    refine WL_val rfl rfl rfl (R_fieldAddr rfl fa89_2 rfl) ?_
    refine WL_do0 rfl rfl (D_store (vs := [_]) rfl Tryz.sizeOf26 rfl rfl rfl rfl rfl (plD) (by exact Nat.le_of_ble_eq_true rfl)) ?_
    rintro _ _ rfl
    refine WL_nil ?_
    refine WQ_code ?_
    refine WC_drawY (⟨some b1, _⟩ :: [⟨y.eb, _⟩]) [(b1, 7, sVal y.eb y.ek y.ns.length y.ec)] [10] [(0, false), (1, false), (2, false), (3, false), (4, true)] [(5, true), (6, false), (7, false), (8, true), (9, true), (10, false)] followsMixed rfl rfl (by kernel_rfl) (pqD) (.cons (mmD) rfl .nil) ?_
    refine WYE_val rfl rfl rfl rfl (R_move rfl rfl) ?_
    refine WYE_val rfl rfl rfl rfl (R_move rfl rfl) ?_
    refine WYE_val rfl rfl rfl rfl (R_nilCheck rfl rfl) ?_
    refine WYE_val rfl rfl rfl rfl (R_fieldAddr rfl fa51_3 rfl) ?_
    refine WYE_early rfl rfl rfl rfl rfl sc49 rfl (by repeat (first | exact List.Mem.head _ | refine List.Mem.tail _ ?_)) ?_
    refine WYE_rest ?_
    refine WY_val rfl rfl rfl rfl (R_loadA (vs := [_, _, _]) rfl ag89 rfl (mmD) rfl (atZ)) ?_
    refine WY_do rfl rfl rfl rfl (D_buildSlice rfl si49 rfl rfl rfl) ?_
    rintro _ _ ⟨b3, rfl, rfl⟩
    refine ⟨⟨_, pqD⟩, .inr (.cons (mmD) rfl .nil), ?_⟩
    refine WY_do rfl rfl rfl rfl (D_appendS rfl si49 rfl hE plD rfl mmD (atZ : At _ 0 [_, _, _]) rfl rfl (by decide) (by omega) (by omega)) ?_
    rintro _ _ ⟨obS, kS, cS, preS, tlS, rfl, ownS, rfl⟩
    refine ⟨⟨_, pqD⟩, .inr (.cons (mmD) rfl .nil), ?_⟩
    rw [show y.ns.flatMap encRs ++ [Value.int .i64 r0.id, .int .i64 r0.code, slV o8 r0.body.length c8] = (y.ns ++ [(⟨r0.id, r0.code, r0.body, o8, c8, tl8⟩ : Rs)]).flatMap encRs from by simp, show y.ns.length + 1 = (y.ns ++ [(⟨r0.id, r0.code, r0.body, o8, c8, tl8⟩ : Rs)]).length from by simp] at ownS ⊢
    refine WY_val rfl rfl rfl rfl (R_nilCheck rfl rfl) ?_
    refine WY_val rfl rfl rfl rfl (R_fieldAddr rfl fa51_3 rfl) ?_
    refine WY_do0 rfl rfl rfl (D_store (vs := [_]) rfl Tryz.sizeOf49 rfl rfl rfl rfl rfl (plD) (by exact Nat.le_of_ble_eq_true rfl)) ?_
    rintro _ _ rfl
    refine ⟨⟨_, pqD⟩, .inl rfl, ?_⟩
    refine WY_nil ?_
    refine WQ_code ?_
    refine WC_region ?_
    refine WL_val rfl rfl rfl (R_add rfl rfl rfl (by omega)) ?_
    refine WL_val rfl rfl rfl (R_move rfl rfl) ?_
    refine WL_nil ?_
    refine WQshp (A := rsE (⟨r0.id, r0.code, r0.body, o8, c8, tl8⟩ : Rs) :: rsH y.ns) (A' := rsH (y.ns ++ [(⟨r0.id, r0.code, r0.body, o8, c8, tl8⟩ : Rs)])) pqD rsH_perm ?_
    refine WQ_nextF (⟨y.k + 1, y.ns ++ [(⟨r0.id, r0.code, r0.body, o8, c8, tl8⟩ : Rs)], obS, kS, cS, preS, tlS⟩) (⟨by dsimp only; omega, by dsimp only; rw [take_next hx, List.map_append, List.map_append, hv]; rfl, rs_snoc hok own8, by dsimp only; simp; omega, ownS⟩) (by dsimp only; omega) leZ (psZ) rfl (pqD)
  · have hyk : y.k = x.res.length := by omega
    rw [hyk, List.take_length] at hv
    refine WC_exit ?_
    refine WQ_code ?_
    refine WC_seq ?_
    refine WC_region ?_
    refine WL_val rfl rfl rfl (R_move rfl rfl) ?_
    refine WL_val rfl rfl rfl (R_assign rfl rfl) ?_
    refine WL_nil ?_
    refine WQ_code ?_
    refine WC_ret ?_
    refine WQ_ret rfl rfl (.cons (.tmp rfl) .nil) rfl (by
        exact ⟨⟨b1, ⟨o1, 0, cR1, [], t1, o2, 0, cR2, [], t2⟩, o3, cR3, t3, y.eb, y.ek, y.ec, y.epre, y.etl⟩, { x with res := y.ns }, rfl, ⟨⟨OwnS.of own1, OwnS.of own2⟩, own3, hE, hok⟩, by simp only [Cl.v, hv], rfl⟩) (pqD)
end Go.Proofs.YtdelhikejgoffaaGreat
end
section
set_option linter.unusedVariables false
set_option maxRecDepth 20000
set_option maxHeartbeats 1000000
namespace Go.Proofs.YtdelhikejgoffaaGreat
theorem nani_ok (a : Int) : Spec Tryz.prog 101 [.int .i64 a] [] (fun r H' => r = .bool false ∧ H' = []) := by
  refine Spec.of (E := [(0, .int .i64 a)]) Tryz.func101 rfl (by kernel_rfl) Tryz.ntmps101 rfl rfl (fun w => ?_)
  refine WC_seq ?_
  refine WC_region ?_
  refine WL_val rfl rfl rfl (R_assign rfl rfl) ?_
  refine WL_nil ?_
  refine WQ_code ?_
  refine WC_seq ?_
  refine WC_region ?_
  refine WL_val rfl rfl rfl (R_move rfl rfl) ?_
  refine WL_val rfl rfl rfl (R_move rfl rfl) ?_
  refine WL_val rfl rfl rfl (R_neq rfl rfl rfl) ?_
  refine WL_val rfl rfl rfl (R_assign rfl rfl) ?_
  refine WL_nil ?_
  refine WQ_code ?_
  refine WC_ret ?_
  refine WQ_ret rfl rfl (.cons (.tmp rfl) .nil) rfl (by
      exact ⟨congrArg Value.bool (by simp), rfl⟩) (pqY)
theorem nant_ok (a : Int) : Spec Tryz.prog 100 [.int .u64 a] [] (fun r H' => r = .bool false ∧ H' = []) := by
  refine Spec.of (E := [(0, .int .u64 a)]) Tryz.func100 rfl (by kernel_rfl) Tryz.ntmps100 rfl rfl (fun w => ?_)
  refine WC_seq ?_
  refine WC_region ?_
  refine WL_val rfl rfl rfl (R_assign rfl rfl) ?_
  refine WL_nil ?_
  refine WQ_code ?_
  refine WC_seq ?_
  refine WC_region ?_
  refine WL_val rfl rfl rfl (R_move rfl rfl) ?_
  refine WL_val rfl rfl rfl (R_move rfl rfl) ?_
  refine WL_val rfl rfl rfl (R_neq rfl rfl rfl) ?_
  refine WL_val rfl rfl rfl (R_assign rfl rfl) ?_
  refine WL_nil ?_
  refine WQ_code ?_
  refine WC_ret ?_
  refine WQ_ret rfl rfl (.cons (.tmp rfl) .nil) rfl (by
      exact ⟨congrArg Value.bool (by simp), rfl⟩) (pqY)
theorem cmpi_ok (a b : Int) : Spec Tryz.prog 85 [.int .i64 a, .int .i64 b] [] (fun r H' => r = .int .i64 (cmpI a b) ∧ H' = []) := by
  refine Spec.of (E := [(0, .int .i64 a), (1, .int .i64 b)]) Tryz.func85 rfl (by kernel_rfl) Tryz.ntmps85 rfl rfl (fun w => ?_)
  refine WC_seq ?_
  refine WC_region ?_
  refine WL_val rfl rfl rfl (R_assign rfl rfl) ?_
  refine WL_nil ?_
  refine WQ_code ?_
  refine WC_seq ?_
  refine WC_region ?_
  refine WL_val rfl rfl rfl (R_move rfl rfl) ?_
  refine WL_do rfl rfl rfl (D_call (nani_ok _) rfl rfl rfl rfl (pqY)) ?_
  rintro _ _ ⟨_, ⟨rfl, rfl⟩, rfl⟩
  refine WL_val rfl rfl rfl (R_assign rfl rfl) ?_
  refine WL_nil ?_
  refine WQ_code ?_
  refine WC_seq ?_
  refine WC_region ?_
  refine WL_val rfl rfl rfl (R_move rfl rfl) ?_
  refine WL_do rfl rfl rfl (D_call (nani_ok _) rfl rfl rfl rfl (pqY)) ?_
  rintro _ _ ⟨_, ⟨rfl, rfl⟩, rfl⟩
  refine WL_val rfl rfl rfl (R_assign rfl rfl) ?_
  refine WL_nil ?_
  refine WQ_code ?_
  refine WC_seq ?_
  refine WC_seq ?_
  refine WC_region ?_
  refine WL_val rfl rfl rfl (R_move rfl rfl) ?_
  refine WL_nil ?_
  refine WQ_code ?_
  refine WC_F rfl ?_
  refine WC_skip ?_
  refine WQ_code ?_
  refine WC_seq ?_
  refine WC_seq ?_
  refine WC_region ?_
  refine WL_val rfl rfl rfl (R_move rfl rfl) ?_
  refine WL_nil ?_
  refine WQ_code ?_
  refine WC_F rfl ?_
  refine WC_skip ?_
  refine WQ_code ?_
  refine WC_seq ?_
  refine WC_seq ?_
  refine WC_region ?_
  refine WL_val rfl rfl rfl (R_move rfl rfl) ?_
  refine WL_val rfl rfl rfl (R_move rfl rfl) ?_
  refine WL_val rfl rfl rfl (R_lss rfl rfl rfl) ?_
  refine WL_nil ?_
  refine WQ_code ?_
  refine WC_dec rfl (fun c1 => ?_) (fun c1 => ?_)
  · refine WC_seq ?_
    refine WC_region ?_
    refine WL_val rfl rfl rfl (R_assign rfl rfl) ?_
    refine WL_nil ?_
    refine WQ_code ?_
    refine WC_ret ?_
    refine WQ_ret rfl rfl (.cons (.tmp rfl) .nil) rfl (by
        exact ⟨congrArg (Value.int .i64) (by unfold cmpI; (repeat split) <;> omega), rfl⟩) (pqY)
  · refine WC_skip ?_
    refine WQ_code ?_
    refine WC_seq ?_
    refine WC_seq ?_
    refine WC_region ?_
    refine WL_val rfl rfl rfl (R_move rfl rfl) ?_
    refine WL_val rfl rfl rfl (R_move rfl rfl) ?_
    refine WL_val rfl rfl rfl (R_gtr rfl rfl rfl) ?_
    refine WL_nil ?_
    refine WQ_code ?_
    refine WC_dec rfl (fun c2 => ?_) (fun c2 => ?_)
    · refine WC_seq ?_
      refine WC_region ?_
      refine WL_val rfl rfl rfl (R_assign rfl rfl) ?_
      refine WL_nil ?_
      refine WQ_code ?_
      refine WC_ret ?_
      refine WQ_ret rfl rfl (.cons (.tmp rfl) .nil) rfl (by
          exact ⟨congrArg (Value.int .i64) (by unfold cmpI; (repeat split) <;> omega), rfl⟩) (pqY)
    · refine WC_skip ?_
      refine WQ_code ?_
      refine WC_seq ?_
      refine WC_region ?_
      refine WL_val rfl rfl rfl (R_assign rfl rfl) ?_
      refine WL_nil ?_
      refine WQ_code ?_
      refine WC_ret ?_
      refine WQ_ret rfl rfl (.cons (.tmp rfl) .nil) rfl (by
          exact ⟨congrArg (Value.int .i64) (by unfold cmpI; (repeat split) <;> omega), rfl⟩) (pqY)
theorem cmpt_ok (a b : Int) : Spec Tryz.prog 84 [.int .u64 a, .int .u64 b] [] (fun r H' => r = .int .i64 (cmpI a b) ∧ H' = []) := by
  refine Spec.of (E := [(0, .int .u64 a), (1, .int .u64 b)]) Tryz.func84 rfl (by kernel_rfl) Tryz.ntmps84 rfl rfl (fun w => ?_)
  refine WC_seq ?_
  refine WC_region ?_
  refine WL_val rfl rfl rfl (R_assign rfl rfl) ?_
  refine WL_nil ?_
  refine WQ_code ?_
  refine WC_seq ?_
  refine WC_region ?_
  refine WL_val rfl rfl rfl (R_move rfl rfl) ?_
  refine WL_do rfl rfl rfl (D_call (nant_ok _) rfl rfl rfl rfl (pqY)) ?_
  rintro _ _ ⟨_, ⟨rfl, rfl⟩, rfl⟩
  refine WL_val rfl rfl rfl (R_assign rfl rfl) ?_
  refine WL_nil ?_
  refine WQ_code ?_
  refine WC_seq ?_
  refine WC_region ?_
  refine WL_val rfl rfl rfl (R_move rfl rfl) ?_
  refine WL_do rfl rfl rfl (D_call (nant_ok _) rfl rfl rfl rfl (pqY)) ?_
  rintro _ _ ⟨_, ⟨rfl, rfl⟩, rfl⟩
  refine WL_val rfl rfl rfl (R_assign rfl rfl) ?_
  refine WL_nil ?_
  refine WQ_code ?_
  refine WC_seq ?_
  refine WC_seq ?_
  refine WC_region ?_
  refine WL_val rfl rfl rfl (R_move rfl rfl) ?_
  refine WL_nil ?_
  refine WQ_code ?_
  refine WC_F rfl ?_
  refine WC_skip ?_
  refine WQ_code ?_
  refine WC_seq ?_
  refine WC_seq ?_
  refine WC_region ?_
  refine WL_val rfl rfl rfl (R_move rfl rfl) ?_
  refine WL_nil ?_
  refine WQ_code ?_
  refine WC_F rfl ?_
  refine WC_skip ?_
  refine WQ_code ?_
  refine WC_seq ?_
  refine WC_seq ?_
  refine WC_region ?_
  refine WL_val rfl rfl rfl (R_move rfl rfl) ?_
  refine WL_val rfl rfl rfl (R_move rfl rfl) ?_
  refine WL_val rfl rfl rfl (R_lss rfl rfl rfl) ?_
  refine WL_nil ?_
  refine WQ_code ?_
  refine WC_dec rfl (fun c1 => ?_) (fun c1 => ?_)
  · refine WC_seq ?_
    refine WC_region ?_
    refine WL_val rfl rfl rfl (R_assign rfl rfl) ?_
    refine WL_nil ?_
    refine WQ_code ?_
    refine WC_ret ?_
    refine WQ_ret rfl rfl (.cons (.tmp rfl) .nil) rfl (by
        exact ⟨congrArg (Value.int .i64) (by unfold cmpI; (repeat split) <;> omega), rfl⟩) (pqY)
  · refine WC_skip ?_
    refine WQ_code ?_
    refine WC_seq ?_
    refine WC_seq ?_
    refine WC_region ?_
    refine WL_val rfl rfl rfl (R_move rfl rfl) ?_
    refine WL_val rfl rfl rfl (R_move rfl rfl) ?_
    refine WL_val rfl rfl rfl (R_gtr rfl rfl rfl) ?_
    refine WL_nil ?_
    refine WQ_code ?_
    refine WC_dec rfl (fun c2 => ?_) (fun c2 => ?_)
    · refine WC_seq ?_
      refine WC_region ?_
      refine WL_val rfl rfl rfl (R_assign rfl rfl) ?_
      refine WL_nil ?_
      refine WQ_code ?_
      refine WC_ret ?_
      refine WQ_ret rfl rfl (.cons (.tmp rfl) .nil) rfl (by
          exact ⟨congrArg (Value.int .i64) (by unfold cmpI; (repeat split) <;> omega), rfl⟩) (pqY)
    · refine WC_skip ?_
      refine WQ_code ?_
      refine WC_seq ?_
      refine WC_region ?_
      refine WL_val rfl rfl rfl (R_assign rfl rfl) ?_
      refine WL_nil ?_
      refine WQ_code ?_
      refine WC_ret ?_
      refine WQ_ret rfl rfl (.cons (.tmp rfl) .nil) rfl (by
          exact ⟨congrArg (Value.int .i64) (by unfold cmpI; (repeat split) <;> omega), rfl⟩) (pqY)
theorem cor_ok (l : List Int) (hl : l.length ≤ 100) (o : Option Nat) (c : Nat) (tl : List Value) (own : Own o l.length c 1 (ivs l) tl) : Spec Tryz.prog 83 [slV o l.length c] [⟨o, cl (ivs l ++ tl) 3⟩] (fun r H' => r = .int .i64 (orL l) ∧ H' = [⟨o, cl (ivs l ++ tl) 3⟩]) := by
  refine Spec.of (E := [(0, slV o l.length c)]) Tryz.func83 rfl (by kernel_rfl) Tryz.ntmps83 rfl rfl (fun w => ?_)
  refine WC_seq ?_
  refine WC_region ?_
  refine WL_val rfl rfl rfl (R_assign rfl rfl) ?_
  refine WL_nil ?_
  refine WQ_code ?_
  refine WC_seq ?_
  refine WC_region ?_
  refine WL_val rfl rfl rfl (R_assign rfl rfl) ?_
  refine WL_nil ?_
  refine WQ_code ?_
  refine WC_seq ?_
  refine WC_seq ?_
  refine WC_region ?_
  refine WL_val rfl rfl rfl (R_move rfl rfl) ?_
  refine WL_val rfl rfl rfl (R_len rfl Tryz.underlying32 rfl) ?_
  refine WL_val rfl rfl rfl (R_move rfl rfl) ?_
  refine WL_nil ?_
  refine WQ_code ?_
  refine WC_block ?_
  refine WC_loopF (G := Nat) [2, 5, 8, 9, 10, 11, 12, 13, 14, 15, 16] (fun k => k ≤ l.length ∧ ∀ v ∈ l.take k, v = 0) (fun k => [(8, .int .i64 (k : Int))]) (fun k => []) (fun k => l.length - k) (0) (⟨Nat.zero_le _, by simp⟩) leZ (pqY) ?_
  rintro k ⟨hk, hz⟩
  refine WC_seq ?_
  refine WC_region ?_
  refine WL_val rfl rfl rfl (R_lss rfl rfl rfl) ?_
  refine WL_nil ?_
  refine WQ_code ?_
  refine WC_seq ?_
  refine WC_dec rfl (fun c1 => ?_) (fun c1 => ?_)
  · refine WC_skip ?_
    refine WQ_code ?_
    refine WC_seq ?_
    refine WC_block ?_
    refine WC_seq ?_
    refine WC_region ?_
    obtain ⟨x, hx⟩ := getE (T := l) (i := k) (by omega)
    obtain ⟨wa, hwa⟩ := own.some_of (by omega)
    refine WL_val rfl rfl rfl (R_idxO hwa rfl Tryz.underlying32 Tryz.sizeOf3 rfl rfl (by omega)) ?_
    refine WL_val rfl rfl rfl (R_loadO (v := .int .i64 x) hwa rfl sc3 rfl (mmY) (fm_get0 encI1 hx (j := 0) (by omega))) ?_
    refine WL_val rfl rfl rfl (R_assign rfl rfl) ?_
    refine WL_nil ?_
    refine WQ_code ?_
    refine WC_seq ?_
    refine WC_region ?_
    refine WL_val rfl rfl rfl (R_move rfl rfl) ?_
    refine WL_val rfl rfl rfl (R_move rfl rfl) ?_
    refine WL_val rfl rfl rfl (R_neq rfl rfl rfl) ?_
    refine WL_nil ?_
    refine WQ_code ?_
    refine WC_dec rfl (fun c2 => ?_) (fun c2 => ?_)
    · have hc := c2
      refine WC_seq ?_
      refine WC_region ?_
      refine WL_val rfl rfl rfl (R_move rfl rfl) ?_
      refine WL_val rfl rfl rfl (R_assign rfl rfl) ?_
      refine WL_nil ?_
      refine WQ_code ?_
      refine WC_ret ?_
      refine WQ_ret rfl rfl (.cons (.tmp rfl) .nil) rfl (by
          exact ⟨congrArg (Value.int .i64) (orL_hit hz hx hc).symm, rfl⟩) (pqY)
    · have hc := c2
      refine WC_skip ?_
      refine WQ_code ?_
      refine WC_region ?_
      refine WL_val rfl rfl rfl (R_add rfl rfl rfl (by omega)) ?_
      refine WL_val rfl rfl rfl (R_move rfl rfl) ?_
      refine WL_nil ?_
      refine WQ_nextF (k + 1) (⟨by omega, fun v hv => by rw [take_next hx] at hv; rcases List.mem_append.1 hv with hv | hv; exact hz v hv; rw [List.mem_singleton.1 hv]; omega⟩) (by omega) leZ (psZ) rfl (pqY)
  · have hkl : l.length ≤ k := by omega
    refine WC_exit ?_
    refine WQ_code ?_
    refine WC_seq ?_
    refine WC_region ?_
    refine WL_val rfl rfl rfl (R_move rfl rfl) ?_
    refine WL_val rfl rfl rfl (R_assign rfl rfl) ?_
    refine WL_nil ?_
    refine WQ_code ?_
    refine WC_ret ?_
    refine WQ_ret rfl rfl (.cons (.tmp rfl) .nil) rfl (by
        exact ⟨congrArg (Value.int .i64) (orL_none hz hkl).symm, rfl⟩) (pqY)
end Go.Proofs.YtdelhikejgoffaaGreat
end
section
namespace Go.Proofs.YtdelhikejgoffaaGreat
open Go.Shelf Go.RowKit Go.Lib Go.Sort
/-- A world with the same blocks and new ones behind them. -/
theorem hw_grow {Hc : Heap} {W W' : World} (h : HOK Hc W) (c : HW Hc W Hc W') : ∃ q os', W' = grow (W.drewN q) os' := by
  have hb := HW.belOf h c
  refine ⟨W'.drawn - W.drawn, W'.heap.extract W.heap.size W'.heap.size, ?_⟩
  have hheap : W'.heap = W.heap ++ W'.heap.extract W.heap.size W'.heap.size := by
    apply Array.ext_getElem?
    intro k
    rw [Array.getElem?_append]
    by_cases hk : k < W.heap.size
    · rw [if_pos hk]; exact hb.block k hk
    · rw [if_neg hk, Array.getElem?_extract]
      by_cases h2 : k < W'.heap.size
      · rw [if_pos (by omega)]; congr 1; omega
      · rw [if_neg (by omega), Array.getElem?_eq_none (by omega)]
  have hdr := c.dr
  obtain ⟨hp, tp, dr, os, out⟩ := W'
  obtain ⟨hp0, tp0, dr0, os0, out0⟩ := W
  have e1 := c.os
  have e2 := c.tape
  have e3 := c.output
  dsimp only at e1 e2 e3 hdr hheap
  subst e1 e2 e3
  simp only [grow, World.drewN, World.mk.injEq, true_and, and_true]
  exact ⟨hheap, by omega⟩
section
variable {α : Type} [Inhabited α] {enc : α → Value}
theorem holds_of {w : World} {b : Nat} {e : TypeId} {d : List α} {tl : List Value} (hb : w.heap[b]? = some (cl (d.map enc ++ tl) e)) : Holds enc w b 0 d.toArray := fun j hj => by
  have hj' : j < d.length := by simpa using hj
  have hg : (d.map enc ++ tl)[j]? = some (enc d[j]) := by rw [List.getElem?_append_left (by simpa using hj'), List.getElem?_map, List.getElem?_eq_getElem hj']; rfl
  refine ⟨?_, ?_⟩
  · simp only [World.cell?, hb, cl, Nat.zero_add, List.getElem?_toArray, hg]
    simp [hj']
  · simp [World.frozen?, hb, cl]
theorem sw_hw {Hc : Heap} {w : World} {b : Nat} {e : TypeId} {d d' : List α} {tl : List Value} (hw : HOK (⟨some b, cl (d.map enc ++ tl) e⟩ :: Hc) w) (hl : d'.length = d.length) (m : Nat) (os : Array Obj) :
    HW (⟨some b, cl (d.map enc ++ tl) e⟩ :: Hc) w (⟨some b, cl (d'.map enc ++ tl) e⟩ :: Hc) (sortWorld enc w b 0 m d'.toArray os) := by
  have hb : w.heap[b]? = some (cl (d.map enc ++ tl) e) := by
    have := hw.ok _ (List.mem_cons_self ..)
    simpa [Ent.ok] using this
  have hlt := (Array.getElem?_eq_some_iff.1 hb).1
  have hput : putCells enc 0 d'.toArray (d.map enc ++ tl).toArray = (d'.map enc ++ tl).toArray := by
    apply Array.ext_getElem?
    intro k
    simp only [putCells, Array.getElem?_mapIdx, List.getElem?_toArray]
    by_cases hk : k < d'.length
    · rw [List.getElem?_append_left (by simpa using (by omega : k < d.length)), List.getElem?_append_left (by simpa using hk), List.getElem?_map, List.getElem?_map, List.getElem?_eq_getElem (by omega : k < d.length), List.getElem?_eq_getElem hk]
      simp [hk]
    · rw [List.getElem?_append_right (by simp; omega), List.getElem?_append_right (by simp; omega)]
      simp only [List.length_map, hl]
      cases tl[k - d.length]? with
      | none => rfl
      | some v => simp [hk]
  have hsame : (sortWorld enc w b 0 m d'.toArray os).heap[b]? = some (cl (d'.map enc ++ tl) e) := by
    simp only [sortWorld, grow, putRow, mapBlock, Sort.ahead, Array.getElem?_append, Array.size_modify, hlt, if_true, Array.getElem?_modify, hb, Option.map_some, cl, onCells]
    rw [hput]
  have hother : ∀ k, k < w.heap.size → k ≠ b → (sortWorld enc w b 0 m d'.toArray os).heap[k]? = w.heap[k]? := fun k hk hne => by
    simp only [sortWorld, grow, putRow, mapBlock, Sort.ahead, Array.getElem?_append, Array.size_modify, hk, if_true, Array.getElem?_modify, if_neg (Ne.symm hne)]
  have hnd := hw.nodup
  simp only [keys, List.filterMap_cons, List.nodup_cons] at hnd
  refine ⟨⟨by simp only [keys, List.filterMap_cons, List.nodup_cons]; exact hnd, fun x hx => ?_⟩, rfl, rfl, rfl, ?_, fun k hk hn => ?_, fun k hk => .inl (by simpa [keys] using hk), ?_⟩
  · rcases List.mem_cons.1 hx with rfl | hx2
    · simpa [Ent.ok] using hsame
    · have h1 := hw.ok x (List.mem_cons_of_mem _ hx2)
      cases hxb : x.b with
      | none => simp only [Ent.ok, hxb] at h1 ⊢; exact h1
      | some c =>
        simp only [Ent.ok, hxb] at h1 ⊢
        have hne : c ≠ b := fun e => hnd.1 (by subst e; exact List.mem_filterMap.2 ⟨x, hx2, hxb⟩)
        rw [hother c (Array.getElem?_eq_some_iff.1 h1).1 hne]; exact h1
  · simp [sortWorld, grow, putRow, mapBlock, Sort.ahead]
  · exact hother k hk (fun e => hn (by subst e; simp [keys]))
  · simp [sortWorld, grow, putRow, mapBlock, Sort.ahead]
end
end Go.Proofs.YtdelhikejgoffaaGreat
end
section
namespace Go.Proofs.YtdelhikejgoffaaGreat
open Go.Shelf Go.RowKit Go.Lib Go.Sort
section
variable {α : Type} [Inhabited α] {enc : α → List Value} {k : Nat}
theorem flat_eq (hk : ∀ x, (enc x).length = k) (d : List α) : flatK enc k d.toArray = (d.flatMap enc).toArray := by
  have hs : (d.flatMap enc).length = d.length * k := fm_length hk d
  apply Array.ext
  · simp [hs]
  · intro t h1 h2
    have ht : t < d.length * k := by simpa using h1
    have k0 : 0 < k := by rcases Nat.eq_zero_or_pos k with h | h; · subst h; simp at ht
                          · exact h
    have hi : t / k < d.length := Nat.div_lt_of_lt_mul (by rw [Nat.mul_comm]; exact ht)
    have hj : t % k < k := Nat.mod_lt t k0
    have hg := get_flatK enc k d.toArray t (by simpa using ht)
    rw [getElem!_pos _ t h1] at hg
    have hx : d[t / k]? = some d[t / k] := List.getElem?_eq_getElem hi
    have hf := fm_get hk hx hj []
    rw [List.append_nil, show t / k * k + t % k = t from by rw [Nat.mul_comm]; exact Nat.div_add_mod t k] at hf
    rw [hg]
    have e1 : d.toArray[t / k]! = d[t / k] := by simp [hi]
    rw [e1, getElem!_pos _ _ (by rw [hk]; exact hj)]
    have h3 : t < (d.flatMap enc).length := by simpa using h2
    rw [List.getElem?_eq_getElem h3, List.getElem?_eq_getElem (by rw [hk]; exact hj)] at hf
    simpa using (Option.some.inj hf).symm
theorem sortK_ok {P : Program} {ρ : Ren} (L : SlLaysF0.n6 P ρ) (f : Nat) (hf : ρ.f 6 = f) (aE : ∀ w, (isAgg (ρ.t 24)).run P w = .ok true w) (zE : ∀ w, (Go.sizeOf (ρ.t 24)).run P w = .ok k w) (hk : ∀ x, (enc x).length = k) (h1 : ∀ x, ∀ v ∈ enc x, v.oneCell' = true)
    (cf : α → α → Int) (hO : SWO (ltOf cf)) (g : Nat) (cb : List Value) (Hc : Heap) (hcmp : ∀ x y, Spec P g ([.agg (enc x).toArray, .agg (enc y).toArray] ++ cb) Hc (fun r H' => r = .int .i64 (cf x y) ∧ H' = Hc)) (hen : Enters P f)
    (b n c : Nat) (e : TypeId) (d : List α) (tl : List Value) (hn : d.length = n) (hsz : n < 4611686018427387904) :
    Spec P f [slV (some b) n c, .func (.func g) #[] cb.toArray] (⟨some b, cl (d.flatMap enc ++ tl) e⟩ :: Hc)
      (fun r H' => ∃ d' : List α, r = .tuple #[] ∧ d'.Perm d ∧ d'.Pairwise (fun x y => ltOf cf y x = false) ∧ H' = ⟨some b, cl (d'.flatMap enc ++ tl) e⟩ :: Hc) := by
  subst hf hn
  refine ⟨hen, fun w hw => callsIn_wide.2 ?_⟩
  have hb : w.heap[b]? = some (cl (d.flatMap enc ++ tl) e) := by
    have := hw.ok _ (List.mem_cons_self ..)
    simpa [Ent.ok] using this
  have hlt := (Array.getElem?_eq_some_iff.1 hb).1
  have hsw : ∀ (m : Nat) (os : Array Obj) (dk : List α), dk.length = d.length → HW (⟨some b, cl (d.flatMap enc ++ tl) e⟩ :: Hc) w (⟨some b, cl (dk.flatMap enc ++ tl) e⟩ :: Hc) (sortWorldK enc k w b 0 m dk.toArray os) := fun m os dk hdk => by
    have hw' : HOK (⟨some b, cl ((d.flatMap enc).map id ++ tl) e⟩ :: Hc) w := by rw [List.map_id]; exact hw
    have := sw_hw (enc := id) (d := d.flatMap enc) (d' := dk.flatMap enc) (tl := tl) hw' (by rw [fm_length hk, fm_length hk, hdk]) m os
    rw [List.map_id, List.map_id, ← flat_eq hk dk] at this
    exact this
  have hc : CmpLays P g cb.toArray enc k cf b 0 d.toArray.size w := fun m os dk hdk x y => by
    have hw2 := hsw m os dk.toList (by simpa using hdk)
    simp only [Array.toArray_toList] at hw2
    have hok : HOK Hc (sortWorldK enc k w b 0 m dk os) := (hw2.perm (by simpa using (List.perm_append_comm (l₁ := [_]) (l₂ := Hc)))).left.hok
    have := callsIn_wide.1 ((hcmp x y).calls _ hok)
    rw [show ((#[Value.agg (enc x).toArray, Value.agg (enc y).toArray] : Array Value) ++ cb.toArray) = ([Value.agg (enc x).toArray, Value.agg (enc y).toArray] ++ cb).toArray from by simp]
    refine this.mono fun e w' ⟨v, H', e1, ⟨e2, e3⟩, e4⟩ => ⟨by rw [e1, e2], ?_⟩
    subst e3
    exact hw_grow hok e4
  have hH : HoldsK enc k w b 0 d.toArray := by
    unfold HoldsK
    rw [flat_eq hk]
    exact holds_of (enc := id) (by rw [List.map_id]; exact hb)
  have := AnyQ.slices_SortFunc L k aE zE enc hk h1 cf hO g cb.toArray b 0 c d.toArray w (hcmp default default).enters hc hH hlt (by simpa using hsz)
  refine this.mono fun e w' ⟨he, d', m, os, hp, hs, hwe⟩ => ?_
  obtain ⟨hs1, _, hp2⟩ := hp
  have hsz2 : d'.size = d.length := by simpa using hs1
  refine ⟨_, _, he, ⟨d'.toList, rfl, ?_, ?_, rfl⟩, ?_⟩
  · have e1 : d'.extract 0 d.toArray.size = d' := by simp [← hsz2]
    have e2 : d.toArray.extract 0 d.toArray.size = d.toArray := by simp
    rw [e1, e2] at hp2
    simpa using hp2
  · rw [List.pairwise_iff_getElem]
    intro i j hi hj hij
    have := hs i j (Nat.zero_le _) hij (by simpa [hsz2] using hj)
    have hi' : i < d'.size := by simpa using hi
    have hj' : j < d'.size := by simpa using hj
    simpa [hi', hj'] using this
  · rw [hwe]
    have := hsw m os d'.toList (by simpa using hsz2)
    simpa only [Array.toArray_toList] using this
end
theorem sort_none {P : Program} {ρ : Ren} (L : SlLaysF0.n6 P ρ) (f : Nat) (hf : ρ.f 6 = f) (hen : Enters P f) (ob : Option Nat) (c : Nat) (fv : Value) : Spec P f [slV ob 0 c, fv] [] (fun r H' => r = .tuple #[] ∧ H' = []) := by
  subst hf
  refine ⟨hen, fun w hw => callsIn_wide.2 ?_⟩
  have h : ∀ p, Calls P (ρ.f 6) #[.slice p 0 c, fv] w fun e w' => e = .returned (.tuple #[]) ∧ w' = w := fun p => AnyF.slices_SortFunc_none L p c fv w
  cases ob with
  | none => exact (h none).mono fun e w' ⟨e1, e2⟩ => ⟨_, _, e1, ⟨rfl, rfl⟩, by rw [e2]; exact HW.start hw⟩
  | some b => exact (h (some ⟨b, 0, none⟩)).mono fun e w' ⟨e1, e2⟩ => ⟨_, _, e1, ⟨rfl, rfl⟩, by rw [e2]; exact HW.start hw⟩
end Go.Proofs.YtdelhikejgoffaaGreat
end
section
set_option linter.unusedVariables false
set_option maxRecDepth 20000
namespace Go.Proofs.YtdelhikejgoffaaGreat
open Go.Shelf
def lysC_ren : Go.Shelf.Ren := ⟨fun | 6 => 81 | 14 => 98 | 15 => 99 | 20 => 103 | 21 => 104 | 22 => 105 | 23 => 106 | 24 => 107 | 25 => 108 | 26 => 109 | 27 => 110 | 28 => 111 | 29 => 112 | 46 => 114 | 47 => 115 | 48 => 116 | 49 => 117 | 50 => 118 | 57 => 119 | n => n, fun | 0 => 0 | 3 => 3 | 4 => 4 | 5 => 5 | 9 => 9 | 22 => 48 | 24 => 96 | 25 => 140 | 39 => 148 | 45 => 157 | 46 => 158 | 50 => 162 | 53 => 165 | 55 => 40 | 66 => 168 | 70 => 172 | 76 => 174 | 77 => 175 | n => n, fun n => n⟩
theorem lysC : SlLaysF0.n6 Tryz.prog lysC_ren := {
  mixed := by kernel_rfl,
  f6 := ⟨Tryz.f81.name, by decide, Tryz.func81.trans (congrArg some (by kernel_rfl))⟩,
  f14 := ⟨Tryz.f98.name, by decide, Tryz.func98.trans (congrArg some (by kernel_rfl))⟩,
  f15 := Tryz.func99.trans (congrArg some (by kernel_rfl)),
  f20 := ⟨Tryz.f103.name, by decide, Tryz.func103.trans (congrArg some (by kernel_rfl))⟩,
  f21 := ⟨Tryz.f104.name, by decide, Tryz.func104.trans (congrArg some (by kernel_rfl))⟩,
  f22 := ⟨Tryz.f105.name, by decide, Tryz.func105.trans (congrArg some (by kernel_rfl))⟩,
  f23 := ⟨Tryz.f106.name, by decide, Tryz.func106.trans (congrArg some (by kernel_rfl))⟩,
  f24 := ⟨Tryz.f107.name, by decide, Tryz.func107.trans (congrArg some (by kernel_rfl))⟩,
  f25 := ⟨Tryz.f108.name, by decide, Tryz.func108.trans (congrArg some (by kernel_rfl))⟩,
  f26 := ⟨Tryz.f109.name, by decide, Tryz.func109.trans (congrArg some (by kernel_rfl))⟩,
  f27 := ⟨Tryz.f110.name, by decide, Tryz.func110.trans (congrArg some (by kernel_rfl))⟩,
  f28 := Tryz.func111.trans (congrArg some (by kernel_rfl)),
  f29 := Tryz.func112.trans (congrArg some (by kernel_rfl)),
  f46 := ⟨Tryz.f114.name, by decide, Tryz.func114.trans (congrArg some (by kernel_rfl))⟩,
  f47 := Tryz.func115.trans (congrArg some (by kernel_rfl)),
  f48 := Tryz.func116.trans (congrArg some (by kernel_rfl)),
  f49 := ⟨Tryz.f117.name, by decide, Tryz.func117.trans (congrArg some (by kernel_rfl))⟩,
  f50 := ⟨Tryz.f118.name, by decide, Tryz.func118.trans (congrArg some (by kernel_rfl))⟩,
  f57 := ⟨Tryz.f119.name, by decide, Tryz.func119.trans (congrArg some (by kernel_rfl))⟩,
  t0 := Tryz.underlying0,
  a0 := Tryz.isAgg0,
  z0 := Tryz.sizeOf0,
  v0 := Tryz.zeroValue0,
  t3 := Tryz.underlying3,
  a3 := Tryz.isAgg3,
  z3 := Tryz.sizeOf3,
  v3 := Tryz.zeroValue3,
  t4 := Tryz.underlying4,
  a4 := Tryz.isAgg4,
  z4 := Tryz.sizeOf4,
  v4 := Tryz.zeroValue4,
  t5 := Tryz.underlying5,
  a5 := Tryz.isAgg5,
  z5 := Tryz.sizeOf5,
  v5 := Tryz.zeroValue5,
  t9 := Tryz.underlying9,
  a9 := Tryz.isAgg9,
  z9 := Tryz.sizeOf9,
  v9 := Tryz.zeroValue9,
  t22 := Tryz.underlying48,
  a22 := Tryz.isAgg48,
  z22 := Tryz.sizeOf48,
  v22 := Tryz.zeroValue48,
  t25 := Tryz.underlying140,
  a25 := Tryz.isAgg140,
  z25 := Tryz.sizeOf140,
  v25 := Tryz.zeroValue140,
  t39 := Tryz.underlying148,
  a39 := Tryz.isAgg148,
  z39 := Tryz.sizeOf148,
  v39 := Tryz.zeroValue148,
  t45 := Tryz.underlying157,
  a45 := Tryz.isAgg157,
  z45 := Tryz.sizeOf157,
  v45 := Tryz.zeroValue157,
  t46 := Tryz.underlying158,
  a46 := Tryz.isAgg158,
  z46 := Tryz.sizeOf158,
  v46 := Tryz.zeroValue158,
  t50 := Tryz.underlying162,
  a50 := Tryz.isAgg162,
  z50 := Tryz.sizeOf162,
  v50 := Tryz.zeroValue162,
  t53 := Tryz.underlying165,
  a53 := Tryz.isAgg165,
  z53 := Tryz.sizeOf165,
  v53 := Tryz.zeroValue165,
  t55 := Tryz.underlying40,
  a55 := Tryz.isAgg40,
  z55 := Tryz.sizeOf40,
  v55 := Tryz.zeroValue40,
  t66 := Tryz.underlying168,
  a66 := Tryz.isAgg168,
  z66 := Tryz.sizeOf168,
  v66 := Tryz.zeroValue168,
  t70 := Tryz.underlying172,
  a70 := Tryz.isAgg172,
  z70 := Tryz.sizeOf172,
  v70 := Tryz.zeroValue172,
  t76 := Tryz.underlying174,
  a76 := Tryz.isAgg174,
  z76 := Tryz.sizeOf174,
  v76 := Tryz.zeroValue174,
  t77 := Tryz.underlying175,
  a77 := Tryz.isAgg175,
  z77 := Tryz.sizeOf175,
  v77 := Tryz.zeroValue175 }
end Go.Proofs.YtdelhikejgoffaaGreat
end
section
set_option linter.unusedVariables false
set_option maxRecDepth 20000
set_option maxHeartbeats 2000000
namespace Go.Proofs.YtdelhikejgoffaaGreat
open Go.Shelf Go.RowKit Go.Lib Go.Sort
def cmpCa (a b : Ca) : Int := orL [cmpI (a.dl : Int) (b.dl : Int), cmpI (a.id : Int) (b.id : Int)]
theorem own_lit2 (o : Nat) (a b : Int) : Own (some o) 2 2 1 (ivs [a, b]) [] := ⟨rfl, rfl, Nat.le_refl _, by decide, fun e => by cases e⟩
theorem ccmp_ok (a b : Ca) : Spec Tryz.prog 82 [caV a, caV b] [] (fun r H' => r = .int .i64 (cmpCa a b) ∧ H' = []) := by
  refine Spec.of (E := [(0, caV a), (1, caV b)]) Tryz.func82 rfl (by kernel_rfl) Tryz.ntmps82 rfl rfl (fun w => ?_)
  refine WC_seq ?_
  refine WC_region ?_
  refine WL_do rfl rfl rfl (D_box (cs := [_, _]) rfl rfl rfl) ?_
  rintro _ _ ⟨b1, rfl, rfl⟩
  refine WL_do rfl rfl rfl (D_box (cs := [_, _]) rfl rfl rfl) ?_
  rintro _ _ ⟨b2, rfl, rfl⟩
  refine WL_val rfl rfl rfl (R_assign rfl rfl) ?_
  refine WL_nil ?_
  refine WQ_code ?_
  refine WC_seq ?_
  refine WC_draw _ [(0, true), (1, true), (2, true), (3, true), (4, true), (5, true), (6, true), (7, true), (8, true), (9, true), (10, false), (11, false), (12, true)] followsMixed rfl rfl (by kernel_rfl) .all ?_
  refine WM_val rfl rfl rfl rfl (R_fieldAddr rfl fa96_1 rfl) ?_
  refine WM_val rfl rfl rfl rfl (R_load rfl sc41 rfl (mmY) rfl) ?_
  refine WM_val rfl rfl rfl rfl (R_fieldAddr rfl fa96_1 rfl) ?_
  refine WM_val rfl rfl rfl rfl (R_load rfl sc41 rfl (mmY) rfl) ?_
  refine WM_call rfl (Spec.quiet (cmpt_ok _ _)) rfl rfl rfl rfl rfl rfl rfl (pqY) ?_
  refine WM_val rfl rfl rfl rfl (R_fieldAddr rfl fa96_0 rfl) ?_
  refine WM_val rfl rfl rfl rfl (R_load rfl sc3 rfl (mmY) rfl) ?_
  refine WM_val rfl rfl rfl rfl (R_fieldAddr rfl fa96_0 rfl) ?_
  refine WM_val rfl rfl rfl rfl (R_load rfl sc3 rfl (mmY) rfl) ?_
  refine WM_call rfl (Spec.quiet (cmpi_ok _ _)) rfl rfl rfl rfl rfl rfl rfl (pqY) ?_
  refine WM_do rfl rfl rfl rfl (D_buildSlice rfl si32 rfl rfl rfl) ?_
  rintro _ _ ⟨b3, rfl, rfl⟩
  refine ⟨⟨_, pqY⟩, ?_⟩
  refine WM_do rfl rfl rfl rfl (D_call (cor_ok [cmpI (a.dl : Int) (b.dl : Int), cmpI (a.id : Int) (b.id : Int)] (Nat.le_of_ble_eq_true rfl) _ _ [] (own_lit2 _ _ _)) rfl rfl rfl rfl (pqY)) ?_
  rintro _ _ ⟨_, ⟨rfl, rfl⟩, rfl⟩
  refine ⟨⟨_, pqY⟩, ?_⟩
  refine WM_val rfl rfl rfl rfl (R_assign rfl rfl) ?_
  refine WM_nil ?_
  refine WQ_code ?_
  refine WC_ret ?_
  refine WQ_ret rfl rfl (.cons (.tmp rfl) .nil) rfl (by
      exact ⟨rfl, rfl⟩) (pqY)
theorem cmpCa_lt (a b : Ca) : cmpCa a b < 0 ↔ caLt a b := by
  unfold cmpCa orL orL orL cmpI caLt
  repeat' split
  all_goals omega
theorem cmpCa_swo : Go.Sort.SWO (ltOf cmpCa) := by
  refine ⟨fun x => ?_, fun x y z h1 h2 => ?_, fun x y z h1 h2 => ?_⟩
  · simp only [ltOf, decide_eq_false_iff_not, cmpCa_lt]; unfold caLt; omega
  · simp only [ltOf, decide_eq_true_eq, cmpCa_lt] at *; exact caLt_tr h1 h2
  · simp only [ltOf, decide_eq_false_iff_not, cmpCa_lt] at *
    unfold caLt at *; omega
theorem csort_ok : CSortOk := by
  intro l hl ob c tl own
  haveI : Inhabited Ca := ⟨⟨0, 0⟩⟩
  cases ob with
  | none =>
    obtain ⟨h0, rfl, h2, rfl⟩ := own.void'
    have hl0 : l = [] := List.eq_nil_of_length_eq_zero h0
    subst hl0
    refine (fr_app (sort_none lysC 81 rfl (Enters.mk Tryz.func81 rfl rfl) none 0 (.func (.func 82) #[] #[])) [⟨none, cl [] 96⟩]).mono fun r H' ⟨H1, ⟨e1, e2⟩, e3⟩ => ⟨[], e1, .refl _, .nil, ?_⟩
    subst e2; exact e3
  | some b =>
    refine (sortK_ok (enc := encC) (k := 2) lysC 81 rfl (fun w => (ag96 w).1) (fun w => (ag96 w).2) encC2 (fun x v hv => ?_) cmpCa cmpCa_swo 82 [] [] (fun x y => ccmp_ok x y) (Enters.mk Tryz.func81 rfl rfl) b l.length c 96 l tl rfl (by omega)).mono fun r H' ⟨d', e1, e2, e3, e4⟩ => ⟨d', e1, e2, ?_, e4⟩
    · simp only [encC, List.mem_cons, List.not_mem_nil, or_false] at hv
      rcases hv with rfl | rfl <;> rfl
    · refine e3.imp fun {a b} h => ?_
      simpa only [ltOf, decide_eq_false_iff_not, cmpCa_lt] using h
end Go.Proofs.YtdelhikejgoffaaGreat
end
section
set_option linter.unusedVariables false
set_option maxRecDepth 20000
set_option maxHeartbeats 2000000
namespace Go.Proofs.YtdelhikejgoffaaGreat
theorem pp1 (a b c d e : Ent) (F : Heap) : (a :: b :: c :: d :: e :: F : Heap).Perm ([e, c, d, b, a] ++ [] ++ F) := by
  have h1 : (a :: b :: c :: d :: e :: F : Heap) = [a, b, c, d, e] ++ F := rfl
  have h2 : ([e, c, d, b, a] ++ [] ++ F : Heap) = [e, c, d, b, a] ++ F := rfl
  rw [h1, h2]
  refine List.Perm.append_right F ?_
  exact ((List.reverse_perm [a, b, c, d, e]).symm.trans (.cons _ (.swap ..)))
def cH (g : CG) : Heap := clH g.m g.x
def sH (g : SG) : Heap := svH g.m g.x
structure CGd (g : CG) (p : Nat) (v : PC) : Prop where
  is : ClIs g.m g.x
  p : g.m.p = p
  v : g.x.v = v
structure SGd (g : SG) (p : Nat) (v : PV) : Prop where
  is : SvIs g.m g.x
  p : g.m.p = p
  v : g.x.v = v
section
variable {g : CG} {p : Nat} {v : PC} (hg : CGd g p v) (hb : PCB v)
include hg hb
theorem k_call {body : Bs} {oa : Option Addr} {ent : Ent} {c : Nat} (hr : RdB oa ent body) (dl : Nat) (hdl : dl ≤ 18446744073709551615) : Spec Tryz.prog 39 [ptrC p, .slice oa body.length c, .int .u64 (dl : Int)] (cH g ++ [ent]) (fun r H' => ∃ g', CGd g' p (v.call body dl).1 ∧ r = .tuple #[.int .i64 (v.call body dl).2.1, .int .i64 (v.call body dl).2.2] ∧ H' = cH g' ++ [ent]) := by
  obtain ⟨h, rfl, rfl⟩ := hg
  exact (call_ok h hb.cl hr dl hdl).mono (by rintro r H' ⟨m', x', e1, e2, e3, e4, e5⟩; exact ⟨⟨m', x'⟩, ⟨e2, e1, e3⟩, e4, e5⟩)
theorem k_cancel (id : Int) : Spec Tryz.prog 20 [ptrC p, .int .i64 id] (cH g) (fun r H' => ∃ g', CGd g' p (v.cancel id).1 ∧ r = .int .i64 (v.cancel id).2 ∧ H' = cH g') := by
  obtain ⟨h, rfl, rfl⟩ := hg
  exact (cancel_ok csort_ok h hb.cl id).mono (by rintro r H' ⟨m', x', e1, e2, e3, e4, e5⟩; exact ⟨⟨m', x'⟩, ⟨e2, e1, e3⟩, e4, e5⟩)
theorem k_adv (now : Nat) : Spec Tryz.prog 19 [ptrC p, .int .u64 (now : Int)] (cH g) (fun r H' => ∃ g', CGd g' p (v.advance now).1 ∧ r = .int .i64 (v.advance now).2 ∧ H' = cH g') := by
  obtain ⟨h, rfl, rfl⟩ := hg
  exact (advance_ok csort_ok h hb.cl now).mono (by rintro r H' ⟨m', x', e1, e2, e3, e4, e5⟩; exact ⟨⟨m', x'⟩, ⟨e2, e1, e3⟩, e4, e5⟩)
theorem k_close : Spec Tryz.prog 35 [ptrC p] (cH g) (fun r H' => ∃ g', CGd g' p v.close.1 ∧ r = .int .i64 v.close.2 ∧ H' = cH g') := by
  obtain ⟨h, rfl, rfl⟩ := hg
  exact (close_ok csort_ok h hb.cl).mono (by rintro r H' ⟨m', x', e1, e2, e3, e4, e5⟩; exact ⟨⟨m', x'⟩, ⟨e2, e1, e3⟩, e4, e5⟩)
theorem k_recv {l : Bs} {oa : Option Addr} {ent : Ent} {c0 : Nat} (hr : RdB oa ent l) (hl : l.length ≤ 65536) : Spec Tryz.prog 33 [ptrC p, .slice oa l.length c0] (cH g ++ [ent]) (fun r H' => ∃ g', CGd g' p (v.recv l).1 ∧ r = .int .i64 (v.recv l).2 ∧ H' = cH g' ++ [ent]) := by
  obtain ⟨h, rfl, rfl⟩ := hg
  exact (recv_ok csort_ok h hb.cl hr hl).mono (by rintro r H' ⟨m', x', e1, e2, e3, e4, e5⟩; exact ⟨⟨m', x'⟩, ⟨e2, e1, e3⟩, e4, e5⟩)
theorem k_next0 (he : v.res = []) : Spec Tryz.prog 36 [ptrC p] (cH g) (fun r H' => ∃ g', CGd g' p v ∧ r = .tuple #[.agg #[.int .i64 0, .int .i64 0, .slice none 0 0], .bool false] ∧ H' = cH g') := by
  obtain ⟨h, rfl, rfl⟩ := hg
  exact (next_empty h hb.cl (by simpa [Cl.v] using he)).mono (by rintro r H' ⟨m', x', e1, e2, e3, e4, e5⟩; exact ⟨⟨m', x'⟩, ⟨e2, e1, e3⟩, e4, e5⟩)
theorem k_next1 {rr : Res} {rest : List Res} (he : v.res = rr :: rest) : Spec Tryz.prog 36 [ptrC p] (cH g) (fun r H' => ∃ g' o c tl, CGd g' p { v with res := rest } ∧ Own o rr.body.length c 1 (bvs rr.body) tl ∧ r = .tuple #[.agg #[.int .i64 rr.id, .int .i64 rr.code, slV o rr.body.length c], .bool true] ∧ H' = cH g' ++ [⟨o, cl (bvs rr.body ++ tl) 5⟩]) := by
  obtain ⟨h, rfl, rfl⟩ := hg
  have he : g.x.res.map Rs.v = rr :: rest := he
  obtain ⟨r0, rs, e0, e1, e2⟩ := List.map_eq_cons_iff.1 he
  subst e1; subst e2
  exact (next_take h hb.cl r0 rs e0).mono (by rintro r H' ⟨m', x', e1, e2, e3, e4, e5⟩; exact ⟨⟨m', x'⟩, r0.o, r0.c, r0.tl, ⟨e2, e1, e3⟩, h.rO r0 (by rw [e0]; exact List.mem_cons_self ..), e4, e5⟩)
theorem k_out0 (n : Int) (hn : n < 0 ∨ 65536 < n) : Spec Tryz.prog 37 [ptrC p, .int .i64 n] (cH g) (fun r H' => ∃ g', CGd g' p v ∧ r = .tuple #[.slice none 0 0, .int .i64 2] ∧ H' = cH g') := by
  obtain ⟨h, rfl, rfl⟩ := hg
  exact (out_arg h hb.cl n hn).mono (by rintro r H' ⟨m', x', e1, e2, e3, e4, e5⟩; exact ⟨⟨m', x'⟩, ⟨e2, e1, e3⟩, e4, e5⟩)
theorem k_out1 (n : Nat) (hn : n ≤ 65536) : Spec Tryz.prog 37 [ptrC p, .int .i64 (n : Int)] (cH g) (fun r H' => ∃ g' o c tl, CGd g' p { v with out := v.out.drop n } ∧ Own o (v.out.take n).length c 1 (bvs (v.out.take n)) tl ∧ r = .tuple #[slV o (v.out.take n).length c, .int .i64 0] ∧ H' = cH g' ++ [⟨o, cl (bvs (v.out.take n) ++ tl) 5⟩]) := by
  obtain ⟨h, rfl, rfl⟩ := hg
  exact (out_do h hb.cl n hn).mono (by rintro r H' ⟨o, c2, tl2, m', x', e1, e2, e3, e4, e5, e6⟩; exact ⟨⟨m', x'⟩, o, c2, tl2, ⟨e2, e1, e3⟩, e5, e4, e6⟩)
theorem k_open : Spec Tryz.prog 11 [ptrC p] (cH g) (fun r H' => ∃ o c tl, r = slV o (v.calls.map fun c => (c.id : Int)).length c ∧ Own o (v.calls.map fun c => (c.id : Int)).length c 1 (ivs (v.calls.map fun c => (c.id : Int))) tl ∧ H' = cH g ++ [⟨o, cl (ivs (v.calls.map fun c => (c.id : Int)) ++ tl) 3⟩]) := by
  obtain ⟨h, rfl, rfl⟩ := hg
  exact open_ok h hb.cl
theorem k_copy (hbody : ∀ r ∈ v.res, r.body.length ≤ 1000000) : Spec Tryz.prog 38 [ptrC p] (cH g) (fun r H' => ∃ g' p', CGd g' p' v ∧ r = ptrC p' ∧ H' = cH g' ++ cH g) := by
  obtain ⟨h, rfl, rfl⟩ := hg
  exact (copy_ok h hb.cl (fun r hr => hbody r.v (List.mem_map_of_mem hr))).mono (by rintro r H' ⟨m', x', e1, e2, e3, e4⟩; exact ⟨⟨m', x'⟩, m'.p, ⟨e2, rfl, e3⟩, e1, e4⟩)
end
section
variable {g : SG} {p : Nat} {v : PV} (hg : SGd g p v) (hb : PVB v)
include hg hb
theorem s_recv {l : Bs} {oa : Option Addr} {ent : Ent} {c0 : Nat} (hr : RdB oa ent l) (hl : l.length ≤ 65536) : Spec Tryz.prog 24 [ptrC p, .slice oa l.length c0] (sH g ++ [ent]) (fun r H' => ∃ g', SGd g' p (v.recv l).1 ∧ r = .int .i64 (v.recv l).2 ∧ H' = sH g' ++ [ent]) := by
  obtain ⟨h, rfl, rfl⟩ := hg
  exact (srecv_ok h hb.cl hr hl).mono (by rintro r H' ⟨m', x', e1, e2, e3, e4, e5⟩; exact ⟨⟨m', x'⟩, ⟨e2, e1, e3⟩, e4, e5⟩)
theorem s_reply (id code : Int) {body : Bs} {oa : Option Addr} {ent : Ent} {c : Nat} (hr : RdB oa ent body) (hbl : body.length ≤ 1000000) : Spec Tryz.prog 16 [ptrC p, .int .i64 id, .int .i64 code, .slice oa body.length c] (sH g ++ [ent]) (fun r H' => ∃ g', SGd g' p (v.reply id code body).1 ∧ r = .int .i64 (v.reply id code body).2 ∧ H' = sH g' ++ [ent]) := by
  obtain ⟨h, rfl, rfl⟩ := hg
  exact (reply_ok h hb.cl id code hr hbl).mono (by rintro r H' ⟨m', x', e1, e2, e3, e4, e5⟩; exact ⟨⟨m', x'⟩, ⟨e2, e1, e3⟩, e4, e5⟩)
theorem s_next0 (he : v.qu = []) : Spec Tryz.prog 21 [ptrC p] (sH g) (fun r H' => ∃ g', SGd g' p v ∧ r = .tuple #[.agg #[.int .i64 0, .int .u64 0, .slice none 0 0], .bool false] ∧ H' = sH g') := by
  obtain ⟨h, rfl, rfl⟩ := hg
  exact (snext_empty h hb.cl (by simpa [Sv.v] using he)).mono (by rintro r H' ⟨m', x', e1, e2, e3, e4, e5⟩; exact ⟨⟨m', x'⟩, ⟨e2, e1, e3⟩, e4, e5⟩)
theorem s_next1 {rr : Rr} {rest : List Rr} (he : v.qu = rr :: rest) : Spec Tryz.prog 21 [ptrC p] (sH g) (fun r H' => ∃ g' o c tl, SGd g' p { v with qu := rest } ∧ Own o rr.body.length c 1 (bvs rr.body) tl ∧ r = .tuple #[.agg #[.int .i64 rr.id, .int .u64 (rr.dl : Int), slV o rr.body.length c], .bool true] ∧ H' = sH g' ++ [⟨o, cl (bvs rr.body ++ tl) 5⟩]) := by
  obtain ⟨h, rfl, rfl⟩ := hg
  have he : g.x.qu.map Rq.v = rr :: rest := he
  obtain ⟨r0, rs, e0, e1, e2⟩ := List.map_eq_cons_iff.1 he
  subst e1; subst e2
  exact (snext_take h hb.cl r0 rs e0).mono (by rintro r H' ⟨m', x', e1, e2, e3, e4, e5⟩; exact ⟨⟨m', x'⟩, r0.o, r0.c, r0.tl, ⟨e2, e1, e3⟩, h.rO r0 (by rw [e0]; exact List.mem_cons_self ..), e4, e5⟩)
theorem s_out1 (n : Nat) (hn : n ≤ 65536) : Spec Tryz.prog 25 [ptrC p, .int .i64 (n : Int)] (sH g) (fun r H' => ∃ g' o c tl, SGd g' p { v with out := v.out.drop n } ∧ Own o (v.out.take n).length c 1 (bvs (v.out.take n)) tl ∧ r = .tuple #[slV o (v.out.take n).length c, .int .i64 0] ∧ H' = sH g' ++ [⟨o, cl (bvs (v.out.take n) ++ tl) 5⟩]) := by
  obtain ⟨h, rfl, rfl⟩ := hg
  exact (sout_do h hb.cl n hn).mono (by rintro r H' ⟨o, c2, tl2, m', x', e1, e2, e3, e4, e5, e6⟩; exact ⟨⟨m', x'⟩, o, c2, tl2, ⟨e2, e1, e3⟩, e5, e4, e6⟩)
theorem s_open : Spec Tryz.prog 9 [ptrC p] (sH g) (fun r H' => ∃ o c tl, r = slV o v.opn.length c ∧ Own o v.opn.length c 1 (ivs v.opn) tl ∧ H' = sH g ++ [⟨o, cl (ivs v.opn ++ tl) 3⟩]) := by
  obtain ⟨h, rfl, rfl⟩ := hg
  exact sopen_ok h hb.cl
end
def pc0 : PC := ⟨[], [], 0, 0, 0, 0, [], [], false⟩
def pv0 : PV := ⟨[], [], 0, 0, 0, [], []⟩
/-- A new client. -/
theorem c_new (p : Nat) : ∃ g, CGd g p pc0 ∧ ∀ F : Heap, ∀ H0 w0 w, HW H0 w0 (⟨some p, cl [.slice none 0 0, .slice none 0 0, .int .i64 0, .int .i64 0, .int .i64 0, .int .u64 0, .slice none 0 0, .slice none 0 0, .bool false] 51⟩ :: F) w → HW H0 w0 (cH g ++ F) w := by
  refine ⟨⟨⟨p, ⟨none, 0, 0, [], [], none, 0, 0, [], []⟩, none, 0, [], none, 0, 0, [], []⟩, ⟨⟨[], [], 0, 0, 0⟩, 0, [], [], false⟩⟩, ⟨⟨⟨OwnS.empty 1, OwnS.empty 1⟩, Own.empty 2, OwnS.empty 3, fun r hr => by cases hr⟩, rfl, rfl⟩, fun F H0 w0 w h => ?_⟩
  have h1 := (((h.addNone 5).addNone 5).addNone 96).addNone 89
  exact h1.perm (pp1 _ _ _ _ _ F)
theorem s_new (p : Nat) : ∃ g, SGd g p pv0 ∧ ∀ F : Heap, ∀ H0 w0 w, HW H0 w0 (⟨some p, cl [.slice none 0 0, .slice none 0 0, .int .i64 0, .int .i64 0, .int .i64 0, .slice none 0 0, .slice none 0 0] 35⟩ :: F) w → HW H0 w0 (sH g ++ F) w := by
  refine ⟨⟨⟨p, ⟨none, 0, 0, [], [], none, 0, 0, [], []⟩, none, 0, [], none, 0, 0, [], []⟩, ⟨⟨[], [], 0, 0, 0⟩, [], []⟩⟩, ⟨⟨⟨OwnS.empty 1, OwnS.empty 1⟩, Own.empty 1, OwnS.empty 3, fun r hr => by cases hr⟩, rfl, rfl⟩, fun F H0 w0 w h => ?_⟩
  have h1 := (((h.addNone 5).addNone 5).addNone 3).addNone 67
  exact h1.perm (pp1 _ _ _ _ _ F)
end Go.Proofs.YtdelhikejgoffaaGreat
end
section
set_option linter.unusedVariables false
set_option maxRecDepth 20000
set_option maxHeartbeats 2000000
namespace Go.Proofs.YtdelhikejgoffaaGreat
theorem RdB.fr (b e : Nat) (fr : Nat × Nat) (tl : List Value) (l : Bs) : RdB (some ⟨b, 0, none⟩) ⟨some b, .cells (List.toArray (bvs l ++ tl)) e fr⟩ l := fun _ => ⟨b, 0, _, _, fr, rfl, rfl, fun j v hj => by rw [Nat.zero_add, List.getElem?_append_left (List.getElem?_eq_some_iff.1 hj).1]; exact hj⟩
theorem WL_turn {X : Ctx} {ops : Array Oper} {p : Post} {l : List Oper} {E : Env} {H F B : Heap} {a : Ent} (hx : ∀ F : Heap, ∀ H0 w0 w, HW H0 w0 (a :: F) w → HW H0 w0 (B ++ F) w) (q : Pull a H F) (k : WL X ops p l E (B ++ F)) : WL X ops p l E H :=
  fun a w ha hw => k a w ha (hx _ _ _ _ (hw.perm q.perm))
theorem dec_pair {α β : Type} [DecidableEq α] [DecidableEq β] (q : α × β) (a : α) (b : β) : decide (q = (a, b)) = (decide (q.1 = a) && decide (q.2 = b)) := by
  obtain ⟨x, y⟩ := q
  by_cases h1 : x = a <;> by_cases h2 : y = b <;> simp [h1, h2]
theorem byt_mk (l : Bs) : byt ⟨l.toArray⟩ = l := by simp [byt]
def PC.ends (x : PC) (id code : Int) (b : Bs) : Bool := match x.res with
  | [] => false
  | r :: _ => decide (r.id = id) && (decide (r.code = code) && decide (r.body = b))
def PV.asks (x : PV) (id : Int) (dl : Nat) (b : Bs) : Bool := match x.qu with
  | [] => false
  | r :: _ => decide (r.id = id) && (decide (r.dl = dl) && decide (r.body = b))
theorem calls_ok {g : CG} {p : Nat} {v : PC} (hg : CGd g p v) (hb : PCB v) (s : ByteArray) (dl : Nat) (hdl : dl ≤ 18446744073709551615) (want no : Int) : Spec Tryz.prog 13 [ptrC p, .string s, .int .u64 (dl : Int), .int .i64 want, .int .i64 no] (cH g) (fun r H' => ∃ g', CGd g' p (v.call (byt s) dl).1 ∧ r = .bool (decide ((v.call (byt s) dl).2 = (want, no))) ∧ H' = cH g') := by
  rw [dec_pair]
  refine Spec.of (E := [(0, ptrC p), (1, .string s), (2, .int .u64 (dl : Int)), (3, .int .i64 want), (4, .int .i64 no)]) Tryz.func13 rfl (by kernel_rfl) Tryz.ntmps13 rfl rfl (fun w => ?_)
  refine WC_seq ?_
  refine WC_region ?_
  refine WL_val rfl rfl rfl (R_assign rfl rfl) ?_
  refine WL_nil ?_
  refine WQ_code ?_
  refine WC_seq ?_
  refine WC_region ?_
  refine WL_val rfl rfl rfl (R_move rfl rfl) ?_
  refine WL_val rfl rfl rfl (R_move rfl rfl) ?_
  refine WL_do rfl rfl rfl (D_strByte rfl Tryz.underlying9 Tryz.underlying26 Tryz.underlying5 rfl) ?_
  rintro _ _ ⟨bB, cB, tB, fB, rfl, rfl⟩
  refine WL_val rfl rfl rfl (R_move rfl rfl) ?_
  refine WL_do rfl rfl rfl (D_call (k_call hg hb (RdB.fr bB _ fB tB (byt s)) dl hdl) rfl rfl rfl rfl (pqD)) ?_
  rintro _ _ ⟨_, ⟨g', hg', rfl, rfl⟩, rfl⟩
  refine WL_val rfl rfl rfl (R_move rfl rfl) ?_
  refine WL_val rfl rfl rfl (R_extract rfl rfl rfl) ?_
  refine WL_val rfl rfl rfl (R_extract rfl rfl rfl) ?_
  refine WL_val rfl rfl rfl (R_assign rfl rfl) ?_
  refine WL_val rfl rfl rfl (R_assign rfl rfl) ?_
  refine WL_nil ?_
  refine WQ_code ?_
  refine WC_seq ?_
  refine WC_region ?_
  refine WL_val rfl rfl rfl (R_move rfl rfl) ?_
  refine WL_val rfl rfl rfl (R_move rfl rfl) ?_
  refine WL_val rfl rfl rfl (R_eql rfl rfl rfl) ?_
  refine WL_val rfl rfl rfl (R_move rfl rfl) ?_
  refine WL_splitD (s := 24) rfl (fun c1 => ?_) (fun c1 => ?_)
  · have hc := c1
    refine WL_val rfl rfl rfl (R_move rfl rfl) ?_
    refine WL_val rfl rfl rfl (R_move rfl rfl) ?_
    refine WL_val rfl rfl rfl (R_eql rfl rfl rfl) ?_
    refine WL_val rfl rfl rfl (R_pickT rfl rfl rfl) ?_
    refine WL_val rfl rfl rfl (R_assign rfl rfl) ?_
    refine WL_nil ?_
    refine WQ_code ?_
    refine WC_ret ?_
    refine WQ_ret rfl rfl (.cons (.tmp rfl) .nil) rfl (by
        exact ⟨g', hg', congrArg Value.bool (by simp [hc]), rfl⟩) (pqD)
  · have hc := c1
    refine WL_skip rfl rfl rfl ?_
    refine WL_skip rfl rfl rfl ?_
    refine WL_skip rfl rfl rfl ?_
    refine WL_val rfl rfl rfl (R_pickF rfl rfl rfl) ?_
    refine WL_val rfl rfl rfl (R_assign rfl rfl) ?_
    refine WL_nil ?_
    refine WQ_code ?_
    refine WC_ret ?_
    refine WQ_ret rfl rfl (.cons (.tmp rfl) .nil) rfl (by
        exact ⟨g', hg', congrArg Value.bool (by simp [hc]), rfl⟩) (pqD)
theorem up_ok {g : CG} {p : Nat} {v : PC} (hg : CGd g p v) (hb : PCB v) {g2 : SG} {p2 : Nat} {u : PV} (hg2 : SGd g2 p2 u) (hb2 : PVB u) : Spec Tryz.prog 14 [ptrC p, ptrC p2] (cH g ++ sH g2)
    (fun r H' => ∃ g' g2', CGd g' p { v with out := v.out.drop 65536 } ∧ SGd g2' p2 (u.recv (v.out.take 65536)).1 ∧ r = .bool (decide ((u.recv (v.out.take 65536)).2 = 0)) ∧ H' = cH g' ++ sH g2') := by
  refine Spec.of (E := [(0, ptrC p), (1, ptrC p2)]) Tryz.func14 rfl (by kernel_rfl) Tryz.ntmps14 rfl rfl (fun w => ?_)
  refine WC_seq ?_
  refine WC_region ?_
  refine WL_val rfl rfl rfl (R_assign rfl rfl) ?_
  refine WL_nil ?_
  refine WQ_code ?_
  refine WC_seq ?_
  refine WC_region ?_
  refine WL_val rfl rfl rfl (R_move rfl rfl) ?_
  refine WL_do rfl rfl rfl (D_call (k_out1 hg hb 65536 (by omega)) rfl rfl rfl rfl (pqD)) ?_
  rintro _ _ ⟨_, ⟨g', o9, c9, tl9, hg', own9, rfl, rfl⟩, rfl⟩
  refine WL_val rfl rfl rfl (R_move rfl rfl) ?_
  refine WL_val rfl rfl rfl (R_extract rfl rfl rfl) ?_
  refine WL_val rfl rfl rfl (R_extract rfl rfl rfl) ?_
  refine WL_val rfl rfl rfl (R_assign rfl rfl) ?_
  refine WL_val rfl rfl rfl (R_assign rfl rfl) ?_
  refine WL_nil ?_
  refine WQ_code ?_
  refine WC_seq ?_
  refine WC_region ?_
  refine WL_val rfl rfl rfl (R_move rfl rfl) ?_
  refine WL_val rfl rfl rfl (R_eql rfl rfl rfl) ?_
  refine WL_set (s := 13) (v := .bool true) rfl (by rfl) ?_
  refine WL_val rfl rfl rfl (R_move rfl rfl) ?_
  refine WL_val rfl rfl rfl (R_move rfl rfl) ?_
  refine WL_val rfl rfl rfl (R_move rfl rfl) ?_
  refine WL_do rfl rfl rfl (D_call (s_recv hg2 hb2 (RdB.own own9) (by simp; omega)) rfl rfl rfl rfl (pqD)) ?_
  rintro _ _ ⟨_, ⟨g2', hg2', rfl, rfl⟩, rfl⟩
  refine WL_val rfl rfl rfl (R_eql rfl rfl rfl) ?_
  refine WL_val rfl rfl rfl (R_pickT rfl rfl rfl) ?_
  refine WL_val rfl rfl rfl (R_assign rfl rfl) ?_
  refine WL_nil ?_
  refine WQ_code ?_
  refine WC_ret ?_
  refine WQ_ret rfl rfl (.cons (.tmp rfl) .nil) rfl (by
      exact ⟨g', g2', hg', hg2', rfl, rfl⟩) (pqD)
theorem down_ok {g : CG} {p : Nat} {v : PC} (hg : CGd g p v) (hb : PCB v) {g2 : SG} {p2 : Nat} {u : PV} (hg2 : SGd g2 p2 u) (hb2 : PVB u) : Spec Tryz.prog 17 [ptrC p2, ptrC p] (cH g ++ sH g2)
    (fun r H' => ∃ g' g2', SGd g2' p2 { u with out := u.out.drop 65536 } ∧ CGd g' p (v.recv (u.out.take 65536)).1 ∧ r = .bool (decide ((v.recv (u.out.take 65536)).2 = 0)) ∧ H' = cH g' ++ sH g2') := by
  refine Spec.of (E := [(0, ptrC p2), (1, ptrC p)]) Tryz.func17 rfl (by kernel_rfl) Tryz.ntmps17 rfl rfl (fun w => ?_)
  refine WC_seq ?_
  refine WC_region ?_
  refine WL_val rfl rfl rfl (R_assign rfl rfl) ?_
  refine WL_nil ?_
  refine WQ_code ?_
  refine WC_seq ?_
  refine WC_region ?_
  refine WL_val rfl rfl rfl (R_move rfl rfl) ?_
  refine WL_do rfl rfl rfl (D_call (s_out1 hg2 hb2 65536 (by omega)) rfl rfl rfl rfl (pqD)) ?_
  rintro _ _ ⟨_, ⟨g2', o9, c9, tl9, hg2', own9, rfl, rfl⟩, rfl⟩
  refine WL_val rfl rfl rfl (R_move rfl rfl) ?_
  refine WL_val rfl rfl rfl (R_extract rfl rfl rfl) ?_
  refine WL_val rfl rfl rfl (R_extract rfl rfl rfl) ?_
  refine WL_val rfl rfl rfl (R_assign rfl rfl) ?_
  refine WL_val rfl rfl rfl (R_assign rfl rfl) ?_
  refine WL_nil ?_
  refine WQ_code ?_
  refine WC_seq ?_
  refine WC_region ?_
  refine WL_val rfl rfl rfl (R_move rfl rfl) ?_
  refine WL_val rfl rfl rfl (R_eql rfl rfl rfl) ?_
  refine WL_set (s := 13) (v := .bool true) rfl (by rfl) ?_
  refine WL_val rfl rfl rfl (R_move rfl rfl) ?_
  refine WL_val rfl rfl rfl (R_move rfl rfl) ?_
  refine WL_val rfl rfl rfl (R_move rfl rfl) ?_
  refine WL_do rfl rfl rfl (D_call (k_recv hg hb (RdB.own own9) (by simp; omega)) rfl rfl rfl rfl (pqD)) ?_
  rintro _ _ ⟨_, ⟨g', hg', rfl, rfl⟩, rfl⟩
  refine WL_val rfl rfl rfl (R_eql rfl rfl rfl) ?_
  refine WL_val rfl rfl rfl (R_pickT rfl rfl rfl) ?_
  refine WL_val rfl rfl rfl (R_assign rfl rfl) ?_
  refine WL_nil ?_
  refine WQ_code ?_
  refine WC_ret ?_
  refine WQ_ret rfl rfl (.cons (.tmp rfl) .nil) rfl (by
      exact ⟨g', g2', hg2', hg', rfl, rfl⟩) (pqD)
theorem ends_ok {g : CG} {p : Nat} {v : PC} (hg : CGd g p v) (hb : PCB v) (id code : Int) (s : ByteArray) (hbody : ∀ r ∈ v.res, r.body.length ≤ 1000000) : Spec Tryz.prog 18 [ptrC p, .int .i64 id, .int .i64 code, .string s] (cH g) (fun r H' => ∃ g', CGd g' p v.next.1 ∧ r = .bool (v.ends id code (byt s)) ∧ H' = cH g') := by
  cases he : v.res with
  | nil =>
    rw [show v.next.1 = v from by unfold PC.next; rw [he], show v.ends id code (byt s) = false from by unfold PC.ends; rw [he]]
    refine Spec.of (E := [(0, ptrC p), (1, .int .i64 id), (2, .int .i64 code), (3, .string s)]) Tryz.func18 rfl (by kernel_rfl) Tryz.ntmps18 rfl rfl (fun w => ?_)
    refine WC_seq ?_
    refine WC_region ?_
    refine WL_val rfl rfl rfl (R_assign rfl rfl) ?_
    refine WL_nil ?_
    refine WQ_code ?_
    refine WC_seq ?_
    refine WC_region ?_
    refine WL_val rfl rfl rfl (R_move rfl rfl) ?_
    refine WL_do rfl rfl rfl (D_call (k_next0 hg hb he) rfl rfl rfl rfl (pqD)) ?_
    rintro _ _ ⟨_, ⟨g', hg', rfl, rfl⟩, rfl⟩
    refine WL_val rfl rfl rfl (R_move rfl rfl) ?_
    refine WL_val rfl rfl rfl (R_extract rfl rfl rfl) ?_
    refine WL_val rfl rfl rfl (R_extract rfl rfl rfl) ?_
    refine WL_do rfl rfl rfl (D_alloc rfl zv89) ?_
    rintro _ _ ⟨b1, rfl, rfl⟩
    refine WL_do0 rfl rfl (D_store (vs := [_, _, _]) rfl Tryz.sizeOf89 rfl rfl rfl rfl rfl (plD) (by exact Nat.le_of_ble_eq_true rfl)) ?_
    rintro _ _ rfl
    refine WL_val rfl rfl rfl (R_assign rfl rfl) ?_
    refine WL_nil ?_
    refine WQ_code ?_
    refine WC_seq ?_
    refine WC_region ?_
    refine WL_val rfl rfl rfl (R_move rfl rfl) ?_
    refine WL_val rfl rfl rfl (R_move rfl rfl) ?_
    refine WL_skip rfl rfl rfl ?_
    refine WL_skip rfl rfl rfl ?_
    refine WL_skip rfl rfl rfl ?_
    refine WL_skip rfl rfl rfl ?_
    refine WL_val rfl rfl rfl (R_pickF rfl rfl rfl) ?_
    refine WL_val rfl rfl rfl (R_move rfl rfl) ?_
    refine WL_skip rfl rfl rfl ?_
    refine WL_skip rfl rfl rfl ?_
    refine WL_skip rfl rfl rfl ?_
    refine WL_skip rfl rfl rfl ?_
    refine WL_val rfl rfl rfl (R_pickF rfl rfl rfl) ?_
    refine WL_val rfl rfl rfl (R_move rfl rfl) ?_
    refine WL_skip rfl rfl rfl ?_
    refine WL_skip rfl rfl rfl ?_
    refine WL_skip rfl rfl rfl ?_
    refine WL_skip rfl rfl rfl ?_
    refine WL_skip rfl rfl rfl ?_
    refine WL_val rfl rfl rfl (R_pickF rfl rfl rfl) ?_
    refine WL_val rfl rfl rfl (R_assign rfl rfl) ?_
    refine WL_nil ?_
    refine WQ_code ?_
    refine WC_ret ?_
    refine WQ_ret rfl rfl (.cons (.tmp rfl) .nil) rfl (by
        exact ⟨g', hg', rfl, rfl⟩) (pqD)
  | cons rr rest =>
    rw [show v.next.1 = { v with res := rest } from by unfold PC.next; rw [he], show v.ends id code (byt s) = (decide (rr.id = id) && (decide (rr.code = code) && decide (rr.body = byt s))) from by unfold PC.ends; rw [he]]
    refine Spec.of (E := [(0, ptrC p), (1, .int .i64 id), (2, .int .i64 code), (3, .string s)]) Tryz.func18 rfl (by kernel_rfl) Tryz.ntmps18 rfl rfl (fun w => ?_)
    refine WC_seq ?_
    refine WC_region ?_
    refine WL_val rfl rfl rfl (R_assign rfl rfl) ?_
    refine WL_nil ?_
    refine WQ_code ?_
    refine WC_seq ?_
    refine WC_region ?_
    refine WL_val rfl rfl rfl (R_move rfl rfl) ?_
    refine WL_do rfl rfl rfl (D_call (k_next1 hg hb he) rfl rfl rfl rfl (pqD)) ?_
    rintro _ _ ⟨_, ⟨g', o9, c9, tl9, hg', own9, rfl, rfl⟩, rfl⟩
    refine WL_val rfl rfl rfl (R_move rfl rfl) ?_
    refine WL_val rfl rfl rfl (R_extract rfl rfl rfl) ?_
    refine WL_val rfl rfl rfl (R_extract rfl rfl rfl) ?_
    refine WL_do rfl rfl rfl (D_alloc rfl zv89) ?_
    rintro _ _ ⟨b1, rfl, rfl⟩
    refine WL_do0 rfl rfl (D_store (vs := [_, _, _]) rfl Tryz.sizeOf89 rfl rfl rfl rfl rfl (plD) (by exact Nat.le_of_ble_eq_true rfl)) ?_
    rintro _ _ rfl
    refine WL_val rfl rfl rfl (R_assign rfl rfl) ?_
    refine WL_nil ?_
    refine WQ_code ?_
    refine WC_seq ?_
    refine WC_region ?_
    refine WL_val rfl rfl rfl (R_move rfl rfl) ?_
    refine WL_val rfl rfl rfl (R_move rfl rfl) ?_
    refine WL_val rfl rfl rfl (R_fieldAddr rfl fa89_0 rfl) ?_
    refine WL_val rfl rfl rfl (R_load rfl sc3 rfl (mmD) rfl) ?_
    refine WL_val rfl rfl rfl (R_move rfl rfl) ?_
    refine WL_val rfl rfl rfl (R_eql rfl rfl rfl) ?_
    refine WL_val rfl rfl rfl (R_pickT rfl rfl rfl) ?_
    refine WL_val rfl rfl rfl (R_move rfl rfl) ?_
    refine WL_splitD (s := 23) rfl (fun c1 => ?_) (fun c1 => ?_)
    · have hc1 := c1
      refine WL_val rfl rfl rfl (R_fieldAddr rfl fa89_1 rfl) ?_
      refine WL_val rfl rfl rfl (R_load rfl sc27 rfl (mmD) rfl) ?_
      refine WL_val rfl rfl rfl (R_move rfl rfl) ?_
      refine WL_val rfl rfl rfl (R_eql rfl rfl rfl) ?_
      refine WL_val rfl rfl rfl (R_pickT rfl rfl rfl) ?_
      refine WL_val rfl rfl rfl (R_move rfl rfl) ?_
      refine WL_splitD (s := 29) rfl (fun c2 => ?_) (fun c2 => ?_)
      · have hc2 := c2
        refine WL_val rfl rfl rfl (R_fieldAddr rfl fa89_2 rfl) ?_
        refine WL_val rfl rfl rfl (R_load rfl sc26 rfl (mmD) rfl) ?_
        refine WL_val rfl rfl rfl (R_byteStr rfl Tryz.underlying26 Tryz.underlying5 Tryz.underlying9 rfl (RdB.own own9) mmD) ?_
        refine WL_val rfl rfl rfl (R_move rfl rfl) ?_
        refine WL_val rfl rfl rfl (R_strEq rfl Tryz.underlying9 rfl rfl) ?_
        refine WL_val rfl rfl rfl (R_pickT rfl rfl rfl) ?_
        refine WL_val rfl rfl rfl (R_assign rfl rfl) ?_
        refine WL_nil ?_
        refine WQ_code ?_
        refine WC_ret ?_
        refine WQ_ret rfl rfl (.cons (.tmp rfl) .nil) rfl (by
            exact ⟨g', hg', congrArg Value.bool (by simp [byt_mk, *]), rfl⟩) (pqD)
      · have hc2 := c2
        refine WL_skip rfl rfl rfl ?_
        refine WL_skip rfl rfl rfl ?_
        refine WL_skip rfl rfl rfl ?_
        refine WL_skip rfl rfl rfl ?_
        refine WL_skip rfl rfl rfl ?_
        refine WL_val rfl rfl rfl (R_pickF rfl rfl rfl) ?_
        refine WL_val rfl rfl rfl (R_assign rfl rfl) ?_
        refine WL_nil ?_
        refine WQ_code ?_
        refine WC_ret ?_
        refine WQ_ret rfl rfl (.cons (.tmp rfl) .nil) rfl (by
            exact ⟨g', hg', congrArg Value.bool (by simp [*]), rfl⟩) (pqD)
    · have hc1 := c1
      refine WL_skip rfl rfl rfl ?_
      refine WL_skip rfl rfl rfl ?_
      refine WL_skip rfl rfl rfl ?_
      refine WL_skip rfl rfl rfl ?_
      refine WL_val rfl rfl rfl (R_pickF rfl rfl rfl) ?_
      refine WL_val rfl rfl rfl (R_move rfl rfl) ?_
      refine WL_skip rfl rfl rfl ?_
      refine WL_skip rfl rfl rfl ?_
      refine WL_skip rfl rfl rfl ?_
      refine WL_skip rfl rfl rfl ?_
      refine WL_skip rfl rfl rfl ?_
      refine WL_val rfl rfl rfl (R_pickF rfl rfl rfl) ?_
      refine WL_val rfl rfl rfl (R_assign rfl rfl) ?_
      refine WL_nil ?_
      refine WQ_code ?_
      refine WC_ret ?_
      refine WQ_ret rfl rfl (.cons (.tmp rfl) .nil) rfl (by
          exact ⟨g', hg', congrArg Value.bool (by simp [*]), rfl⟩) (pqD)
theorem asks_ok {g : SG} {p : Nat} {u : PV} (hg : SGd g p u) (hb : PVB u) (id : Int) (dl : Nat) (s : ByteArray) : Spec Tryz.prog 15 [ptrC p, .int .i64 id, .int .u64 (dl : Int), .string s] (sH g) (fun r H' => ∃ g', SGd g' p u.next.1 ∧ r = .bool (u.asks id dl (byt s)) ∧ H' = sH g') := by
  cases he : u.qu with
  | nil =>
    rw [show u.next.1 = u from by unfold PV.next; rw [he], show u.asks id dl (byt s) = false from by unfold PV.asks; rw [he]]
    refine Spec.of (E := [(0, ptrC p), (1, .int .i64 id), (2, .int .u64 (dl : Int)), (3, .string s)]) Tryz.func15 rfl (by kernel_rfl) Tryz.ntmps15 rfl rfl (fun w => ?_)
    refine WC_seq ?_
    refine WC_region ?_
    refine WL_val rfl rfl rfl (R_assign rfl rfl) ?_
    refine WL_nil ?_
    refine WQ_code ?_
    refine WC_seq ?_
    refine WC_region ?_
    refine WL_val rfl rfl rfl (R_move rfl rfl) ?_
    refine WL_do rfl rfl rfl (D_call (s_next0 hg hb he) rfl rfl rfl rfl (pqD)) ?_
    rintro _ _ ⟨_, ⟨g', hg', rfl, rfl⟩, rfl⟩
    refine WL_val rfl rfl rfl (R_move rfl rfl) ?_
    refine WL_val rfl rfl rfl (R_extract rfl rfl rfl) ?_
    refine WL_val rfl rfl rfl (R_extract rfl rfl rfl) ?_
    refine WL_do rfl rfl rfl (D_alloc rfl zv67) ?_
    rintro _ _ ⟨b1, rfl, rfl⟩
    refine WL_do0 rfl rfl (D_store (vs := [_, _, _]) rfl Tryz.sizeOf67 rfl rfl rfl rfl rfl (plD) (by exact Nat.le_of_ble_eq_true rfl)) ?_
    rintro _ _ rfl
    refine WL_val rfl rfl rfl (R_assign rfl rfl) ?_
    refine WL_nil ?_
    refine WQ_code ?_
    refine WC_seq ?_
    refine WC_region ?_
    refine WL_val rfl rfl rfl (R_move rfl rfl) ?_
    refine WL_val rfl rfl rfl (R_move rfl rfl) ?_
    refine WL_skip rfl rfl rfl ?_
    refine WL_skip rfl rfl rfl ?_
    refine WL_skip rfl rfl rfl ?_
    refine WL_skip rfl rfl rfl ?_
    refine WL_val rfl rfl rfl (R_pickF rfl rfl rfl) ?_
    refine WL_val rfl rfl rfl (R_move rfl rfl) ?_
    refine WL_skip rfl rfl rfl ?_
    refine WL_skip rfl rfl rfl ?_
    refine WL_skip rfl rfl rfl ?_
    refine WL_skip rfl rfl rfl ?_
    refine WL_val rfl rfl rfl (R_pickF rfl rfl rfl) ?_
    refine WL_val rfl rfl rfl (R_move rfl rfl) ?_
    refine WL_skip rfl rfl rfl ?_
    refine WL_skip rfl rfl rfl ?_
    refine WL_skip rfl rfl rfl ?_
    refine WL_skip rfl rfl rfl ?_
    refine WL_skip rfl rfl rfl ?_
    refine WL_val rfl rfl rfl (R_pickF rfl rfl rfl) ?_
    refine WL_val rfl rfl rfl (R_assign rfl rfl) ?_
    refine WL_nil ?_
    refine WQ_code ?_
    refine WC_ret ?_
    refine WQ_ret rfl rfl (.cons (.tmp rfl) .nil) rfl (by
        exact ⟨g', hg', rfl, rfl⟩) (pqD)
  | cons rr rest =>
    rw [show u.next.1 = { u with qu := rest } from by unfold PV.next; rw [he], show u.asks id dl (byt s) = (decide (rr.id = id) && (decide (rr.dl = dl) && decide (rr.body = byt s))) from by unfold PV.asks; rw [he]]
    refine Spec.of (E := [(0, ptrC p), (1, .int .i64 id), (2, .int .u64 (dl : Int)), (3, .string s)]) Tryz.func15 rfl (by kernel_rfl) Tryz.ntmps15 rfl rfl (fun w => ?_)
    refine WC_seq ?_
    refine WC_region ?_
    refine WL_val rfl rfl rfl (R_assign rfl rfl) ?_
    refine WL_nil ?_
    refine WQ_code ?_
    refine WC_seq ?_
    refine WC_region ?_
    refine WL_val rfl rfl rfl (R_move rfl rfl) ?_
    refine WL_do rfl rfl rfl (D_call (s_next1 hg hb he) rfl rfl rfl rfl (pqD)) ?_
    rintro _ _ ⟨_, ⟨g', o9, c9, tl9, hg', own9, rfl, rfl⟩, rfl⟩
    refine WL_val rfl rfl rfl (R_move rfl rfl) ?_
    refine WL_val rfl rfl rfl (R_extract rfl rfl rfl) ?_
    refine WL_val rfl rfl rfl (R_extract rfl rfl rfl) ?_
    refine WL_do rfl rfl rfl (D_alloc rfl zv67) ?_
    rintro _ _ ⟨b1, rfl, rfl⟩
    refine WL_do0 rfl rfl (D_store (vs := [_, _, _]) rfl Tryz.sizeOf67 rfl rfl rfl rfl rfl (plD) (by exact Nat.le_of_ble_eq_true rfl)) ?_
    rintro _ _ rfl
    refine WL_val rfl rfl rfl (R_assign rfl rfl) ?_
    refine WL_nil ?_
    refine WQ_code ?_
    refine WC_seq ?_
    refine WC_region ?_
    refine WL_val rfl rfl rfl (R_move rfl rfl) ?_
    refine WL_val rfl rfl rfl (R_move rfl rfl) ?_
    refine WL_val rfl rfl rfl (R_fieldAddr rfl fa67_0 rfl) ?_
    refine WL_val rfl rfl rfl (R_load rfl sc3 rfl (mmD) rfl) ?_
    refine WL_val rfl rfl rfl (R_move rfl rfl) ?_
    refine WL_val rfl rfl rfl (R_eql rfl rfl rfl) ?_
    refine WL_val rfl rfl rfl (R_pickT rfl rfl rfl) ?_
    refine WL_val rfl rfl rfl (R_move rfl rfl) ?_
    refine WL_splitD (s := 23) rfl (fun c1 => ?_) (fun c1 => ?_)
    · have hc1 := c1
      refine WL_val rfl rfl rfl (R_fieldAddr rfl fa67_1 rfl) ?_
      refine WL_val rfl rfl rfl (R_load rfl sc41 rfl (mmD) rfl) ?_
      refine WL_val rfl rfl rfl (R_move rfl rfl) ?_
      refine WL_val rfl rfl rfl (R_eql rfl rfl rfl) ?_
      refine WL_val rfl rfl rfl (R_pickT rfl rfl rfl) ?_
      refine WL_val rfl rfl rfl (R_move rfl rfl) ?_
      refine WL_splitD (s := 29) rfl (fun c2 => ?_) (fun c2 => ?_)
      · have hc2 : rr.dl = dl := by have := c2; omega
        refine WL_val rfl rfl rfl (R_fieldAddr rfl fa67_2 rfl) ?_
        refine WL_val rfl rfl rfl (R_load rfl sc26 rfl (mmD) rfl) ?_
        refine WL_val rfl rfl rfl (R_byteStr rfl Tryz.underlying26 Tryz.underlying5 Tryz.underlying9 rfl (RdB.own own9) mmD) ?_
        refine WL_val rfl rfl rfl (R_move rfl rfl) ?_
        refine WL_val rfl rfl rfl (R_strEq rfl Tryz.underlying9 rfl rfl) ?_
        refine WL_val rfl rfl rfl (R_pickT rfl rfl rfl) ?_
        refine WL_val rfl rfl rfl (R_assign rfl rfl) ?_
        refine WL_nil ?_
        refine WQ_code ?_
        refine WC_ret ?_
        refine WQ_ret rfl rfl (.cons (.tmp rfl) .nil) rfl (by
            exact ⟨g', hg', congrArg Value.bool (by simp [byt_mk, *]), rfl⟩) (pqD)
      · have hc2 : ¬ rr.dl = dl := by have := c2; omega
        refine WL_skip rfl rfl rfl ?_
        refine WL_skip rfl rfl rfl ?_
        refine WL_skip rfl rfl rfl ?_
        refine WL_skip rfl rfl rfl ?_
        refine WL_skip rfl rfl rfl ?_
        refine WL_val rfl rfl rfl (R_pickF rfl rfl rfl) ?_
        refine WL_val rfl rfl rfl (R_assign rfl rfl) ?_
        refine WL_nil ?_
        refine WQ_code ?_
        refine WC_ret ?_
        refine WQ_ret rfl rfl (.cons (.tmp rfl) .nil) rfl (by
            exact ⟨g', hg', congrArg Value.bool (by simp [*]), rfl⟩) (pqD)
    · have hc1 := c1
      refine WL_skip rfl rfl rfl ?_
      refine WL_skip rfl rfl rfl ?_
      refine WL_skip rfl rfl rfl ?_
      refine WL_skip rfl rfl rfl ?_
      refine WL_val rfl rfl rfl (R_pickF rfl rfl rfl) ?_
      refine WL_val rfl rfl rfl (R_move rfl rfl) ?_
      refine WL_skip rfl rfl rfl ?_
      refine WL_skip rfl rfl rfl ?_
      refine WL_skip rfl rfl rfl ?_
      refine WL_skip rfl rfl rfl ?_
      refine WL_skip rfl rfl rfl ?_
      refine WL_val rfl rfl rfl (R_pickF rfl rfl rfl) ?_
      refine WL_val rfl rfl rfl (R_assign rfl rfl) ?_
      refine WL_nil ?_
      refine WQ_code ?_
      refine WC_ret ?_
      refine WQ_ret rfl rfl (.cons (.tmp rfl) .nil) rfl (by
          exact ⟨g', hg', congrArg Value.bool (by simp [*]), rfl⟩) (pqD)
end Go.Proofs.YtdelhikejgoffaaGreat
end
section
set_option linter.unusedVariables false
set_option maxRecDepth 20000
namespace Go.Proofs.YtdelhikejgoffaaGreat
open Go.ChangeShapes Go.WideShapes Go.ChangeAt Go.RowKit Go.Joins Go.Deep
theorem decB {H : Type} {enc : TypeId × Value → H} {W : World} {sp : Nat → Bool} {held : Bool} (m : Nat) (cs : List Value) (y : DataW H × List MemPlace) (h : DataW.trod enc Tryz.prog W 0 sp held m 5 cs = some y) : ∃ x : UInt8, cs = encY x ∧ True := by
  obtain ⟨n, rfl, _, w⟩ := DataW.trod_int Tryz.underlying5 h
  obtain ⟨k, rfl, hk⟩ := wf_u8 w
  exact ⟨UInt8.ofNat k, by show [Value.int .u8 (k : Int)] = [Value.int .u8 ((UInt8.ofNat k).toNat : Int)]; rw [UInt8.toNat_ofNat', Nat.mod_eq_of_lt hk], trivial⟩
theorem RdB.arg {oa : Option Addr} {x : Ent} {l : Bs} (h : Arg oa x 1 encY l) : RdB oa x l := fun hl => by
  rcases h with ⟨h, _⟩ | ⟨b, k, cs, e, fr, h1, h2, h3⟩
  · rw [h] at hl; exact absurd hl (by simp)
  · refine ⟨b, k, cs, e, fr, h1, h2, fun j v hj => ?_⟩
    have hlt := (List.getElem?_eq_some_iff.1 hj).1
    rw [bvs_len] at hlt
    obtain ⟨y, hy⟩ : ∃ y, l[j]? = some y := ⟨_, List.getElem?_eq_getElem hlt⟩
    rw [bvs_get hy] at hj
    have := h3 j y hy 0 v (by simpa using hj)
    rwa [Nat.mul_one, Nat.add_zero] at this
theorem decA {H : Type} {enc : TypeId × Value → H} {W : World} {sp : Nat → Bool} {held : Bool} (m : Nat) (cs : List Value) (y : DataW H × List MemPlace) (h : DataW.trod enc Tryz.prog W 0 sp held m 43 cs = some y) :
    ∃ (x0 : Int) (x1 : Int) (x2 : Int) (x3 : Int) (oa4 : Option Addr) (en4 : Ent) (l4 : List UInt8) (c4 : Nat), cs = [.int .i64 x0, .int .i64 x1, .int .i64 x2, .int .u64 x3, .slice oa4 l4.length c4] ∧ (Lit.int .i64 x0).wf = true ∧ (Lit.int .i64 x1).wf = true ∧ (Lit.int .i64 x2).wf = true ∧ (Lit.int .u64 x3).wf = true ∧ Arg oa4 en4 1 encY l4 ∧ en4.ok W ∧ l4.length ≤ maxLen ∧ (∀ y ∈ l4, (fun _ => True) y) ∧ True := by
  have hl : cs.length = 5 := (trod_len Tryz.underlying43 h).trans (by kernel_rfl)
  have s3 : Tryz.prog.cellsOf 3 = 1 := by kernel_rfl
  have s26 : Tryz.prog.cellsOf 26 = 1 := by kernel_rfl
  have s41 : Tryz.prog.cellsOf 41 = 1 := by kernel_rfl
  obtain ⟨ng0, yg0, g0⟩ := trod_fld Tryz.underlying43 h (i := 0) rfl
  obtain ⟨x0, e0, _, w0⟩ := DataW.trod_int Tryz.underlying3 g0
  have e0 : (cs.drop 0).take (Tryz.prog.cellsOf 3) = [.int .i64 x0] := e0
  simp only [s3] at e0
  have k0 : cs.drop 0 = .int .i64 x0 :: cs.drop 1 := drop_cons e0
  obtain ⟨ng1, yg1, g1⟩ := trod_fld Tryz.underlying43 h (i := 1) rfl
  obtain ⟨x1, e1, _, w1⟩ := DataW.trod_int Tryz.underlying3 g1
  have e1 : (cs.drop 1).take (Tryz.prog.cellsOf 3) = [.int .i64 x1] := e1
  simp only [s3] at e1
  have k1 : cs.drop 1 = .int .i64 x1 :: cs.drop 2 := drop_cons e1
  obtain ⟨ng2, yg2, g2⟩ := trod_fld Tryz.underlying43 h (i := 2) rfl
  obtain ⟨x2, e2, _, w2⟩ := DataW.trod_int Tryz.underlying3 g2
  have e2 : (cs.drop 2).take (Tryz.prog.cellsOf 3) = [.int .i64 x2] := e2
  simp only [s3] at e2
  have k2 : cs.drop 2 = .int .i64 x2 :: cs.drop 3 := drop_cons e2
  obtain ⟨ng3, yg3, g3⟩ := trod_fld Tryz.underlying43 h (i := 3) rfl
  obtain ⟨x3, e3, _, w3⟩ := DataW.trod_int Tryz.underlying41 g3
  have e3 : (cs.drop 3).take (Tryz.prog.cellsOf 41) = [.int .u64 x3] := e3
  simp only [s41] at e3
  have k3 : cs.drop 3 = .int .u64 x3 :: cs.drop 4 := drop_cons e3
  obtain ⟨ng4, yg4, g4⟩ := trod_fld Tryz.underlying43 h (i := 4) rfl
  obtain ⟨oa4, en4, l4, c4, e4, ha4, ho4, hb4, hg4⟩ := open_argT (enc' := encY) (G := fun _ => True) (sz := 1) Tryz.underlying26 (by kernel_rfl) (by omega) (fun m cs y h => decB m cs y h) g4
  have e4 : (cs.drop 4).take (Tryz.prog.cellsOf 26) = [.slice oa4 l4.length c4] := e4
  simp only [s26] at e4
  have k4 : cs.drop 4 = .slice oa4 l4.length c4 :: cs.drop 5 := drop_cons e4
  exact ⟨x0, x1, x2, x3, oa4, en4, l4, c4, (List.drop_zero (l := cs)).symm.trans (k0.trans (congrArg (List.cons _) (k1.trans (congrArg (List.cons _) (k2.trans (congrArg (List.cons _) (k3.trans (congrArg (List.cons _) (k4.trans (congrArg (List.cons _) (List.drop_eq_nil_of_le (by omega)))))))))))), w0, w1, w2, w3, ha4, ho4, hb4, hg4, trivial⟩
end Go.Proofs.YtdelhikejgoffaaGreat
end
section
set_option linter.unusedVariables false
set_option maxRecDepth 20000
set_option maxHeartbeats 1000000
namespace Go.Proofs.YtdelhikejgoffaaGreat
theorem cons_c {α : Type} {a b : α} {l m : List α} (h1 : a = b) (h2 : l = m) : a :: l = b :: m := by rw [h1, h2]
def RdL {α : Type} (enc : α → List Value) (oa : Option Addr) (x : Ent) (l : List α) : Prop := 0 < l.length → ∃ b k cs e fr, oa = some ⟨b, k, none⟩ ∧ x = ⟨some b, .cells (List.toArray cs) e fr⟩ ∧ At cs k (l.flatMap enc)
/-- A slice that can be read from the memory M. -/
def RdM {α : Type} (enc : α → List Value) (M : Heap) (oa : Option Addr) (l : List α) : Prop := ∃ ent ∈ M, RdL enc oa ent l
theorem RdM.up {α : Type} {enc : α → List Value} {M : Heap} {oa : Option Addr} {l : List α} (h : RdM enc M oa l) (N : Heap) : RdM enc (N ++ M) oa l := by
  obtain ⟨e, h1, h2⟩ := h
  exact ⟨e, List.mem_append_right _ h1, h2⟩
theorem RdM.b {M : Heap} {oa : Option Addr} {l : Bs} (h : RdM encY M oa l) : ∃ ent ∈ M, RdB oa ent l := by
  obtain ⟨e, h1, h2⟩ := h
  exact ⟨e, h1, fun hl => h2 hl⟩
theorem RdM.of {M : Heap} {oa : Option Addr} {l : Bs} {ent : Ent} (hm : ent ∈ M) (h : RdB oa ent l) : RdM encY M oa l := ⟨ent, hm, fun hl => h hl⟩
theorem RdL.own {α : Type} {enc : α → List Value} {sz : Nat} {o : Option Nat} {c e : Nat} {l : List α} {tl : List Value} (h : Own o l.length c sz (l.flatMap enc) tl) : RdL enc (o.map fun b => ⟨b, 0, none⟩) ⟨o, cl (l.flatMap enc ++ tl) e⟩ l := fun hl => by
  obtain ⟨b, rfl⟩ := h.some_of hl
  exact ⟨b, 0, _, e, (0, 0), rfl, rfl, fun j v hj => by rw [Nat.zero_add, List.getElem?_append_left ((List.getElem?_eq_some_iff.1 hj).1)]; exact hj⟩
theorem RdM.own {α : Type} {enc : α → List Value} {sz : Nat} {o : Option Nat} {c e : Nat} {l : List α} {tl : List Value} (h : Own o l.length c sz (l.flatMap enc) tl) (M : Heap) : RdM enc (⟨o, cl (l.flatMap enc ++ tl) e⟩ :: M) (o.map fun b => ⟨b, 0, none⟩) l := ⟨_, List.mem_cons_self .., RdL.own h⟩
theorem At.fm {α : Type} {enc : α → List Value} {sz : Nat} {cs : List Value} {k i : Nat} {l : List α} {x : α} (hat : At cs k (l.flatMap enc)) (hk : ∀ x, (enc x).length = sz) (h : l[i]? = some x) : At cs (k + i * sz) (enc x) := fun j v hj => by
  have hlt := (List.getElem?_eq_some_iff.1 hj).1
  have h1 : At (l.flatMap enc ++ []) (i * sz + 0) (enc x) := fm_at hk h (j := 0) (vs := enc x) (fun j v h => by rw [Nat.zero_add]; exact h) (by rw [hk]; omega) []
  have h2 := h1 j v hj
  rw [List.append_nil, Nat.add_zero] at h2
  have h3 := hat _ v h2
  rwa [← Nat.add_assoc] at h3
theorem val_le {l : Bs} {k : Nat} (h : l.length ≤ k) : valB l < 256 ^ k := by
  have h1 := foldV_lt l 0
  have h3 : 256 ^ l.length ≤ 256 ^ k := Nat.pow_le_pow_right (by decide) h
  have h4 : 0 < 256 ^ k := Nat.pow_pos (by decide)
  unfold valB
  omega
theorem bigB_step (n k : Nat) : UInt8.ofNat (n / 2 ^ (8 * k)) :: bigB n k = bigB n (k + 1) := by
  unfold bigB
  rw [List.range_succ_eq_map, List.map_cons, List.map_map]
  refine cons_c (by simp) (List.map_congr_left fun i hi => ?_)
  have hi := List.mem_range.1 hi
  show _ = UInt8.ofNat (n / 2 ^ (8 * (k + 1 - 1 - (i + 1))))
  rw [show k + 1 - 1 - (i + 1) = k - 1 - i from by omega]
theorem u8_rem (q : Nat) : IntKind.u8.wrap (((q % 256 : Nat)) : Int) = ((UInt8.ofNat q).toNat : Int) := by
  rw [u8_of, UInt8.toNat_ofNat', UInt8.toNat_ofNat']; simp
theorem div_step (n k : Nat) : n / 2 ^ (8 * k) / 256 = n / 2 ^ (8 * (k + 1)) := by
  rw [Nat.div_div_eq_div_mul, show 8 * (k + 1) = 8 * k + 8 from by omega, Nat.pow_add]
theorem Own.byte (b : Nat) (x : UInt8) : Own (some b) 1 1 1 (bvs [x]) [] := ⟨rfl, rfl, Nat.le_refl _, by decide, fun h => by cases h⟩
structure WbW where
  k : Nat
  q : Nat
  L : Bs
  o : Option Nat
  c : Nat
  tl : List Value
structure WsW where
  i : Nat
  s : Nat
theorem RdM.inn {α : Type} {enc : α → List Value} {M H F : Heap} {oa : Option Addr} {l : List α} (h : RdM enc M oa l) (q : Pulls M H F) : 0 < l.length → ∃ b k cs e2 fr, oa = some ⟨b, k, none⟩ ∧ (⟨some b, .cells (List.toArray cs) e2 fr⟩ : Ent) ∈ H ∧ At cs k (l.flatMap enc) := fun hl => by
  obtain ⟨ent, hm, hr⟩ := h
  obtain ⟨b, k, cs, e, fr, h1, rfl, h3⟩ := hr hl
  exact ⟨b, k, cs, e, fr, h1, pulls_mem q hm, h3⟩
theorem twoB_eq {x2 x3 : UInt8} : twoB (x2.toNat * 256 + x3.toNat) = [x2, x3] := by
  have h2 := u8_lt x2
  have h3 := u8_lt x3
  unfold twoB
  have e1 : (x2.toNat * 256 + x3.toNat) / 256 = x2.toNat := by omega
  rw [e1]
  refine cons_c (by simp) (cons_c ?_ rfl)
  apply UInt8.toNat_inj.1
  rw [UInt8.toNat_ofNat']
  omega
theorem enc_eq {l : Bs} {x1 x2 x3 : UInt8} (h0 : l[0]? = some 197) (h1 : l[1]? = some x1) (h2 : l[2]? = some x2) (h3 : l[3]? = some x3) {gg : Nat} (hg : gg = x2.toNat * 256 + x3.toNat) (hl : gg + 6 ≤ l.length) :
    encF x1 ((l.drop 4).take gg) = l.take (gg + 6) ↔ twoB (sumB ((l.drop 1).take (3 + gg))) = (l.drop (4 + gg)).take 2 := by
  match l, h0, h1, h2, h3, hl with
  | a :: b :: c :: d :: r, h0, h1, h2, h3, hl =>
    simp only [List.getElem?_cons_zero, List.getElem?_cons_succ, Option.some.injEq] at h0 h1 h2 h3
    subst h0 h1 h2 h3
    have hr : gg ≤ r.length := by simp only [List.length_cons] at hl; omega
    have hI : ((197 :: b :: c :: d :: r).drop 1).take (3 + gg) = innF b (r.take gg) := by
      unfold innF
      rw [List.length_take, Nat.min_eq_left hr, hg, twoB_eq, ← hg, Nat.add_comm 3 gg]
      rfl
    have hT : (197 :: b :: c :: d :: r).take (gg + 6) = 197 :: (innF b (r.take gg) ++ (r.drop gg).take 2) := by
      unfold innF
      rw [List.length_take, Nat.min_eq_left hr, hg, twoB_eq, ← hg]
      show 197 :: b :: c :: d :: r.take (gg + 2) = 197 :: b :: c :: d :: (r.take gg ++ (r.drop gg).take 2)
      rw [List.take_add]
    have hD : (197 :: b :: c :: d :: r).drop (4 + gg) = r.drop gg := by rw [Nat.add_comm]; rfl
    rw [hI, hT, hD]
    show 197 :: (innF b (r.take gg) ++ twoB (sumB (innF b (r.take gg)))) = _ ↔ _
    rw [List.cons.injEq]
    constructor
    · rintro ⟨_, h⟩; exact List.append_cancel_left h
    · intro h; exact ⟨rfl, by rw [h]⟩
end Go.Proofs.YtdelhikejgoffaaGreat
end
section
set_option linter.unusedVariables false
set_option maxRecDepth 20000
set_option maxHeartbeats 2000000
namespace Go.Proofs.YtdelhikejgoffaaGreat
theorem wval_ok {M : Heap} {l : Bs} {oa : Option Addr} {c : Nat} (hr : RdM encY M oa l) (hl : l.length ≤ 8) : Spec Tryz.prog 88 [.slice oa l.length c] M (fun r H' => r = .int .u64 (valB l : Int) ∧ H' = M) := by
  refine Spec.of (E := [(0, .slice oa l.length c)]) Tryz.func88 rfl (by kernel_rfl) Tryz.ntmps88 rfl rfl (fun w => ?_)
  refine WC_seq ?_
  refine WC_region ?_
  refine WL_val rfl rfl rfl (R_assign rfl rfl) ?_
  refine WL_nil ?_
  refine WQ_code ?_
  refine WC_seq ?_
  refine WC_region ?_
  refine WL_val rfl rfl rfl (R_assign rfl rfl) ?_
  refine WL_nil ?_
  refine WQ_code ?_
  refine WC_seq ?_
  refine WC_seq ?_
  refine WC_region ?_
  refine WL_val rfl rfl rfl (R_assign rfl rfl) ?_
  refine WL_nil ?_
  refine WQ_code ?_
  refine WC_block ?_
  refine WC_loopF (G := Nat) [3, 4, 5, 6, 7, 8, 9, 10, 11, 12, 13, 14, 15, 16, 17, 18] (fun y => y ≤ l.length) (fun y => [(4, .int .i64 (y : Int)), (3, .int .u64 (valB (l.take y) : Int))]) (fun y => []) (fun y => l.length - y) (0) (Nat.zero_le _) leZ (pqD) ?_
  rintro y hy
  refine WC_seq ?_
  refine WC_seq ?_
  refine WC_region ?_
  refine WL_val rfl rfl rfl (R_move rfl rfl) ?_
  refine WL_val rfl rfl rfl (R_move rfl rfl) ?_
  refine WL_val rfl rfl rfl (R_len rfl Tryz.underlying26 rfl) ?_
  refine WL_val rfl rfl rfl (R_lss rfl rfl rfl) ?_
  refine WL_nil ?_
  refine WQ_code ?_
  refine WC_dec rfl (fun c1 => ?_) (fun c1 => ?_)
  · refine WC_skip ?_
    refine WQ_code ?_
    refine WC_seq ?_
    refine WC_block ?_
    refine WC_region ?_
    refine WL_val rfl rfl rfl (R_move rfl rfl) ?_
    refine WL_val rfl rfl rfl (R_mulR (r := ((256 * valB (l.take y) : Nat) : Int)) rfl rfl rfl (by have hv7 := val_le (l := l.take y) (k := 7) (by simp; omega); rw [w64 ⟨by omega, by omega⟩]; omega)) ?_
    refine WL_val rfl rfl rfl (R_move rfl rfl) ?_
    refine WL_val rfl rfl rfl (R_move rfl rfl) ?_
    obtain ⟨x, hx⟩ := getE (T := l) (i := y) (by omega)
    obtain ⟨ent, hm, hr9⟩ := RdM.b hr
    obtain ⟨rb, rk, rcs, re, rfr, rfl, rfl, hat⟩ := hr9 (by omega)
    have hv7 := val_le (l := l.take y) (k := 7) (by simp; omega)
    have hx8 := u8_lt x
    refine WL_val rfl rfl rfl (R_indexAddr rfl Tryz.underlying26 Tryz.sizeOf5 rfl rfl (by omega)) ?_
    refine WL_val rfl rfl rfl (R_loadG (v := .int .u8 (x.toNat : Int)) rfl sc5 rfl (pulls_mem (pqD : Pulls M _ _) hm) (by rw [Nat.mul_one]; exact hat y _ (bvs_get hx))) ?_
    refine WL_val rfl rfl rfl (R_conv (r := (x.toNat : Int)) rfl Tryz.underlying5 Tryz.underlying40 rfl (by rw [w64 ⟨by omega, by omega⟩])) ?_
    refine WL_val rfl rfl rfl (R_addR (r := (valB (l.take (y + 1)) : Int)) rfl rfl rfl (by rw [take_next hx, valB_app, w64 ⟨by omega, by omega⟩]; omega)) ?_
    refine WL_val rfl rfl rfl (R_assign rfl rfl) ?_
    refine WL_nil ?_
    refine WQ_code ?_
    refine WC_region ?_
    refine WL_val rfl rfl rfl (R_move rfl rfl) ?_
    refine WL_val rfl rfl rfl (R_add rfl rfl rfl (by omega)) ?_
    refine WL_val rfl rfl rfl (R_assign rfl rfl) ?_
    refine WL_nil ?_
    refine WQ_nextF (y + 1) (by omega) (by omega) leZ (psZ) rfl (pqD)
  · have hyl : y = l.length := by omega
    subst hyl
    rw [List.take_length]
    refine WC_exit ?_
    refine WQ_code ?_
    refine WC_seq ?_
    refine WC_region ?_
    refine WL_val rfl rfl rfl (R_move rfl rfl) ?_
    refine WL_val rfl rfl rfl (R_assign rfl rfl) ?_
    refine WL_nil ?_
    refine WQ_code ?_
    refine WC_ret ?_
    refine WQ_ret rfl rfl (.cons (.tmp rfl) .nil) rfl (by
        exact ⟨rfl, rfl⟩) (pqD)
theorem wval_s {M : Heap} {l : Bs} {oa : Option Addr} {c : Nat} (hr : RdM encY M oa l) (hl : l.length ≤ 8) : Spec Tryz.prog 88 [.slice oa l.length c] M (fun r H' => r = .int .u64 (valB l : Int) ∧ M = H') := (wval_ok hr hl).mono fun _ _ h => ⟨h.1, h.2.symm⟩
theorem wbig_ok (n many : Nat) (hn : n < 18446744073709551616) (hm : many ≤ 8) : Spec Tryz.prog 55 [.int .u64 (n : Int), .int .i64 (many : Int)] [] (fun r H' => ∃ o c tl, r = slV o (bigB n many).length c ∧ Own o (bigB n many).length c 1 (bvs (bigB n many)) tl ∧ H' = [⟨o, cl (bvs (bigB n many) ++ tl) 5⟩]) := by
  refine Spec.of (E := [(0, .int .u64 (n : Int)), (1, .int .i64 (many : Int))]) Tryz.func55 rfl (by kernel_rfl) Tryz.ntmps55 rfl rfl (fun w => ?_)
  refine WC_seq ?_
  refine WC_region ?_
  refine WL_val rfl rfl rfl (R_assign rfl rfl) ?_
  refine WL_nil ?_
  refine WQ_code ?_
  refine WC_seq ?_
  refine WC_region ?_
  refine WL_val rfl rfl rfl (R_assign rfl rfl) ?_
  refine WL_nil ?_
  refine WQ_code ?_
  refine WC_seq ?_
  refine WC_seq ?_
  refine WC_region ?_
  refine WL_val rfl rfl rfl (R_assign rfl rfl) ?_
  refine WL_nil ?_
  refine WQ_code ?_
  refine WC_block ?_
  refine WC_none 5 ?_
  refine WC_loopF (G := WbW) [0, 5, 6, 7, 8, 9, 10, 11, 12, 13, 14, 15, 16, 17, 18, 19] (fun y => y.k ≤ many ∧ y.q = n / 2 ^ (8 * y.k) ∧ y.L = bigB n y.k ∧ y.q < 18446744073709551616 ∧ y.L.length = y.k ∧ Own y.o y.L.length y.c 1 (bvs y.L) y.tl) (fun y => [(6, .int .i64 (y.k : Int)), (5, slV y.o y.L.length y.c), (0, .int .u64 (y.q : Int))]) (fun y => [⟨y.o, cl (bvs y.L ++ y.tl) 5⟩]) (fun y => many - y.k) (⟨0, n, [], none, 0, []⟩) (⟨Nat.zero_le _, by simp, rfl, hn, rfl, Own.empty 1⟩) leZ (pqD) ?_
  rintro y ⟨hk, hq, hL, hq64, hLk, hO⟩
  refine WC_seq ?_
  refine WC_seq ?_
  refine WC_region ?_
  refine WL_val rfl rfl rfl (R_move rfl rfl) ?_
  refine WL_val rfl rfl rfl (R_move rfl rfl) ?_
  refine WL_val rfl rfl rfl (R_lss rfl rfl rfl) ?_
  refine WL_nil ?_
  refine WQ_code ?_
  refine WC_dec rfl (fun c1 => ?_) (fun c1 => ?_)
  · refine WC_skip ?_
    refine WQ_code ?_
    refine WC_seq ?_
    refine WC_block ?_
    refine WC_seq ?_
    refine WC_region ?_
    refine WL_val rfl rfl rfl (R_move rfl rfl) ?_
    refine WL_val rfl rfl rfl (R_remR (r := ((y.q % 256 : Nat) : Int)) rfl rfl rfl (by decide) (by rw [Int.tmod_eq_emod_of_nonneg (by omega)]; omega)) ?_
    refine WL_val rfl rfl rfl (R_conv (r := ((UInt8.ofNat y.q).toNat : Int)) rfl Tryz.underlying40 Tryz.underlying5 rfl (u8_rem _)) ?_
    refine WL_do rfl rfl rfl (D_buildSlice rfl si26 rfl rfl rfl) ?_
    rintro _ _ ⟨b1, rfl, rfl⟩
    refine WL_val rfl rfl rfl (R_move rfl rfl) ?_
    refine WL_do rfl rfl rfl (D_appendBO rfl si26 rfl (Own.byte b1 (UInt8.ofNat y.q)) plD rfl (RdB.own hO) mmD (by omega) (by omega)) ?_
    rintro _ _ ⟨ob9, c9, tl9, rfl, own9, rfl⟩
    rw [show bvs [UInt8.ofNat y.q] ++ bvs y.L = bvs (UInt8.ofNat y.q :: y.L) from rfl, show 1 + y.L.length = (UInt8.ofNat y.q :: y.L).length from by simp; omega] at own9
    rw [show bvs [UInt8.ofNat y.q] ++ bvs y.L = bvs (UInt8.ofNat y.q :: y.L) from rfl]
    refine WL_set (s := 17) (v := slV ob9 (UInt8.ofNat y.q :: y.L).length c9) rfl (by rw [show 1 + y.L.length = (UInt8.ofNat y.q :: y.L).length from by simp; omega]) ?_
    refine WL_val rfl rfl rfl (R_assign rfl rfl) ?_
    refine WL_nil ?_
    refine WQ_code ?_
    refine WC_region ?_
    refine WL_val rfl rfl rfl (R_move rfl rfl) ?_
    refine WL_val rfl rfl rfl (R_quoR (r := ((y.q / 256 : Nat) : Int)) rfl rfl rfl (by decide) (by rw [Int.tdiv_eq_ediv_of_nonneg (by omega), w64 ⟨by omega, by omega⟩]; omega)) ?_
    refine WL_val rfl rfl rfl (R_assign rfl rfl) ?_
    refine WL_nil ?_
    refine WQ_code ?_
    refine WC_region ?_
    refine WL_val rfl rfl rfl (R_move rfl rfl) ?_
    refine WL_val rfl rfl rfl (R_add rfl rfl rfl (by omega)) ?_
    refine WL_val rfl rfl rfl (R_assign rfl rfl) ?_
    refine WL_nil ?_
    refine WQ_nextF (⟨y.k + 1, y.q / 256, UInt8.ofNat y.q :: y.L, ob9, c9, tl9⟩) (⟨by dsimp only; omega, by dsimp only; rw [hq, div_step], by dsimp only; rw [hq, hL, bigB_step], by dsimp only; omega, by dsimp only; rw [List.length_cons, hLk], own9⟩) (by dsimp only; omega) leZ (psZ) rfl (pqD)
  · have hkm : y.k = many := by omega
    have hL9 : y.L = bigB n many := by rw [hL, hkm]
    refine WC_exit ?_
    refine WQ_code ?_
    refine WC_seq ?_
    refine WC_region ?_
    refine WL_val rfl rfl rfl (R_move rfl rfl) ?_
    refine WL_val rfl rfl rfl (R_assign rfl rfl) ?_
    refine WL_nil ?_
    refine WQ_code ?_
    refine WC_ret ?_
    refine WQ_ret rfl rfl (.cons (.tmp rfl) .nil) rfl (by
        rw [← hL9]
        exact ⟨y.o, y.c, y.tl, rfl, hO, rfl⟩) (pqD)
end Go.Proofs.YtdelhikejgoffaaGreat
end
section
set_option linter.unusedVariables false
set_option maxRecDepth 20000
set_option maxHeartbeats 4000000
namespace Go.Proofs.YtdelhikejgoffaaGreat
theorem rd_all {b k : Nat} {cs : List Value} {e : TypeId} {fr : Nat × Nat} {l : Bs} (hat : At cs k (bvs l)) : RdB (some ⟨b, k, none⟩) ⟨some b, .cells (List.toArray cs) e fr⟩ l := fun _ => ⟨b, k, cs, e, fr, rfl, rfl, hat⟩
theorem wbyt {a b : Bs} (h : byt ⟨a.toArray⟩ = byt ⟨b.toArray⟩) : a = b := by rwa [byt_mk, byt_mk] at h
theorem wenc_ok (k : UInt8) {M : Heap} {body : Bs} {oa : Option Addr} {c : Nat} (hr : RdM encY M oa body) (hl : body.length ≤ 1024) : Spec Tryz.prog 87 [.agg #[.int .u8 (k.toNat : Int), .slice oa body.length c]] M (fun r H' => ∃ o c tl, r = slV o (encF k body).length c ∧ Own o (encF k body).length c 1 (bvs (encF k body)) tl ∧ H' = [⟨o, cl (bvs (encF k body) ++ tl) 5⟩] ++ M) := by
  refine Spec.of (E := [(0, .agg #[.int .u8 (k.toNat : Int), .slice oa body.length c])]) Tryz.func87 rfl (by kernel_rfl) Tryz.ntmps87 rfl rfl (fun w => ?_)
  refine WC_seq ?_
  refine WC_region ?_
  refine WL_do rfl rfl rfl (D_box (cs := [_, _]) rfl rfl rfl) ?_
  rintro _ _ ⟨b1, rfl, rfl⟩
  refine WL_val rfl rfl rfl (R_assign rfl rfl) ?_
  refine WL_nil ?_
  refine WQ_code ?_
  refine WC_seq ?_
  refine WC_region ?_
  refine WL_val rfl rfl rfl (R_fieldAddr rfl fa112_0 rfl) ?_
  refine WL_val rfl rfl rfl (R_load rfl sc5 rfl (mmD) rfl) ?_
  refine WL_val rfl rfl rfl (R_fieldAddr rfl fa112_1 rfl) ?_
  refine WL_val rfl rfl rfl (R_load rfl sc26 rfl (mmD) rfl) ?_
  refine WL_val rfl rfl rfl (R_len rfl Tryz.underlying26 rfl) ?_
  refine WL_val rfl rfl rfl (R_quoR (r := ((body.length / 256 : Nat) : Int)) rfl rfl rfl (by decide) (by rw [Int.tdiv_eq_ediv_of_nonneg (by omega), wrap64_in (by omega) (by omega)]; omega)) ?_
  refine WL_val rfl rfl rfl (R_conv (r := ((UInt8.ofNat (body.length / 256)).toNat : Int)) rfl Tryz.underlying3 Tryz.underlying5 rfl (u8_of _)) ?_
  refine WL_val rfl rfl rfl (R_fieldAddr rfl fa112_1 rfl) ?_
  refine WL_val rfl rfl rfl (R_load rfl sc26 rfl (mmD) rfl) ?_
  refine WL_val rfl rfl rfl (R_len rfl Tryz.underlying26 rfl) ?_
  refine WL_val rfl rfl rfl (R_remR (r := ((body.length % 256 : Nat) : Int)) rfl rfl rfl (by decide) (by rw [Int.tmod_eq_emod_of_nonneg (by omega)]; omega)) ?_
  refine WL_val rfl rfl rfl (R_conv (r := ((UInt8.ofNat body.length).toNat : Int)) rfl Tryz.underlying3 Tryz.underlying5 rfl (u8_rem _)) ?_
  refine WL_do rfl rfl rfl (D_buildSlice rfl si26 rfl rfl rfl) ?_
  rintro _ _ ⟨b2, rfl, rfl⟩
  refine WL_val rfl rfl rfl (R_assign rfl rfl) ?_
  refine WL_nil ?_
  refine WQ_code ?_
  refine WC_seq ?_
  refine WC_seq ?_
  refine WC_region ?_
  refine WL_val rfl rfl rfl (R_assign rfl rfl) ?_
  refine WL_nil ?_
  refine WQ_code ?_
  refine WC_block ?_
  refine WC_loopF (G := WbW) [3, 4, 20, 21, 22, 23, 24, 25, 26, 27, 28, 29, 30, 31, 32, 33, 34] (fun y => y.k ≤ body.length ∧ y.L = (197 :: k :: twoB body.length) ++ body.take y.k ∧ y.L.length = 4 + y.k ∧ Own y.o y.L.length y.c 1 (bvs y.L) y.tl) (fun y => [(4, .int .i64 (y.k : Int)), (3, slV y.o y.L.length y.c)]) (fun y => [⟨y.o, cl (bvs y.L ++ y.tl) 5⟩]) (fun y => body.length - y.k) (⟨0, 0, 197 :: k :: twoB body.length, some b2, 4, []⟩) (⟨Nat.zero_le _, (by simp), rfl, ⟨rfl, rfl, Nat.le_refl _, (show (4 : Nat) ≤ 9223372036854775807 by decide), fun h => by cases h⟩⟩) leZ (pqD) ?_
  rintro y ⟨hk, hL, hLl, hO⟩
  refine WC_seq ?_
  refine WC_seq ?_
  refine WC_region ?_
  refine WL_val rfl rfl rfl (R_move rfl rfl) ?_
  refine WL_val rfl rfl rfl (R_fieldAddr rfl fa112_1 rfl) ?_
  refine WL_val rfl rfl rfl (R_load rfl sc26 rfl (mmD) rfl) ?_
  refine WL_val rfl rfl rfl (R_len rfl Tryz.underlying26 rfl) ?_
  refine WL_val rfl rfl rfl (R_lss rfl rfl rfl) ?_
  refine WL_nil ?_
  refine WQ_code ?_
  refine WC_dec rfl (fun c1 => ?_) (fun c1 => ?_)
  · refine WC_skip ?_
    refine WQ_code ?_
    refine WC_seq ?_
    refine WC_block ?_
    refine WC_region ?_
    refine WL_val rfl rfl rfl (R_move rfl rfl) ?_
    refine WL_val rfl rfl rfl (R_fieldAddr rfl fa112_1 rfl) ?_
    refine WL_val rfl rfl rfl (R_load rfl sc26 rfl (mmD) rfl) ?_
    refine WL_val rfl rfl rfl (R_move rfl rfl) ?_
    obtain ⟨x, hx⟩ := getE (T := body) (i := y.k) (by omega)
    obtain ⟨ent, hm, hr9⟩ := RdM.b hr
    obtain ⟨rb, rk, rcs, re, rfr, rfl, rfl, hat⟩ := hr9 (by omega)
    refine WL_val rfl rfl rfl (R_indexAddr rfl Tryz.underlying26 Tryz.sizeOf5 rfl rfl (by omega)) ?_
    refine WL_val rfl rfl rfl (R_loadG (v := .int .u8 (x.toNat : Int)) rfl sc5 rfl (pulls_mem (pqD : Pulls M _ _) hm) (by rw [Nat.mul_one]; exact hat y.k _ (bvs_get hx))) ?_
    refine WL_do rfl rfl rfl (D_buildSlice rfl si26 rfl rfl rfl) ?_
    rintro _ _ ⟨b3, rfl, rfl⟩
    refine WL_do rfl rfl rfl (D_append rfl si26 rfl hO plD rfl mmD (atZ : At _ 0 [_]) rfl rfl (by omega) (by omega)) ?_
    rintro _ _ ⟨ob9, c9, tl9, rfl, own9, rfl⟩
    rw [show bvs y.L ++ [Value.int .u8 (x.toNat : Int)] = bvs (y.L ++ [x]) from (by rw [bvs_app]; rfl), show y.L.length + 1 = (y.L ++ [x]).length from by simp] at own9
    rw [show bvs y.L ++ [Value.int .u8 (x.toNat : Int)] = bvs (y.L ++ [x]) from (by rw [bvs_app]; rfl)]
    refine WL_set (s := 34) (v := slV ob9 (y.L ++ [x]).length c9) rfl (by rw [show y.L.length + 1 = (y.L ++ [x]).length from by simp]) ?_
    refine WL_val rfl rfl rfl (R_assign rfl rfl) ?_
    refine WL_nil ?_
    refine WQ_code ?_
    refine WC_region ?_
    refine WL_val rfl rfl rfl (R_move rfl rfl) ?_
    refine WL_val rfl rfl rfl (R_add rfl rfl rfl (by omega)) ?_
    refine WL_val rfl rfl rfl (R_assign rfl rfl) ?_
    refine WL_nil ?_
    refine WQ_nextF (⟨y.k + 1, 0, y.L ++ [x], ob9, c9, tl9⟩) (⟨by dsimp only; omega, by dsimp only; rw [take_next hx, hL, List.append_assoc], by dsimp only; rw [List.length_append]; simp; omega, own9⟩) (by dsimp only; omega) leZ (psZ) rfl (pqD)
  · have hkl : y.k = body.length := by omega
    have hL9 : y.L = 197 :: innF k body := by rw [hL, hkl, List.take_length]; rfl
    have hIl := innF_len k body
    refine WC_exit ?_
    refine WQ_code ?_
    refine WC_seq ?_
    refine WC_region ?_
    refine WL_val rfl rfl rfl (R_assign rfl rfl) ?_
    refine WL_nil ?_
    refine WQ_code ?_
    refine WC_seq ?_
    refine WC_seq ?_
    refine WC_region ?_
    refine WL_val rfl rfl rfl (R_assign rfl rfl) ?_
    refine WL_nil ?_
    refine WQ_code ?_
    refine WC_block ?_
    refine WC_loopF (G := WsW) [5, 6, 35, 36, 37, 38, 39, 40, 41, 42, 43, 44, 45, 46, 47, 48, 49] (fun u => u.i ≤ (innF k body).length ∧ u.s = sumB ((innF k body).take u.i)) (fun u => [(6, .int .i64 ((u.i + 1 : Nat) : Int)), (5, .int .i64 (u.s : Int))]) (fun u => []) (fun u => (innF k body).length - u.i) (⟨0, 1⟩) (⟨Nat.zero_le _, rfl⟩) leZ (pqD) ?_
    rintro u ⟨hui, hs⟩
    refine WC_seq ?_
    refine WC_seq ?_
    refine WC_region ?_
    refine WL_val rfl rfl rfl (R_move rfl rfl) ?_
    refine WL_val rfl rfl rfl (R_move rfl rfl) ?_
    refine WL_val rfl rfl rfl (R_len rfl Tryz.underlying26 rfl) ?_
    refine WL_val rfl rfl rfl (R_lss rfl rfl rfl) ?_
    refine WL_nil ?_
    refine WQ_code ?_
    refine WC_dec rfl (fun c2 => ?_) (fun c2 => ?_)
    · refine WC_skip ?_
      refine WQ_code ?_
      refine WC_seq ?_
      refine WC_block ?_
      refine WC_region ?_
      obtain ⟨wb, hwb⟩ := hO.some_of (by omega)
      obtain ⟨x, hx⟩ := getE (T := innF k body) (i := u.i) (by omega)
      have hx1 : y.L[u.i + 1]? = some x := by rw [hL9]; exact hx
      have hx8 := u8_lt x
      have hs8 := sumB_lt ((innF k body).take u.i)
      rw [← hs] at hs8
      refine WL_val rfl rfl rfl (R_move rfl rfl) ?_
      refine WL_val rfl rfl rfl (R_mulR (r := ((u.s * 31 : Nat) : Int)) rfl rfl rfl (by rw [wrap64_in (by omega) (by omega)]; omega)) ?_
      refine WL_val rfl rfl rfl (R_move rfl rfl) ?_
      refine WL_val rfl rfl rfl (R_move rfl rfl) ?_
      refine WL_val rfl rfl rfl (R_idxO hwb rfl Tryz.underlying26 Tryz.sizeOf5 rfl rfl (by omega)) ?_
      refine WL_val rfl rfl rfl (R_loadO (v := .int .u8 (x.toNat : Int)) hwb rfl sc5 rfl (mmD) (fm_get0 encY1 hx1 (j := 0) (by omega))) ?_
      refine WL_val rfl rfl rfl (R_conv (r := (x.toNat : Int)) rfl Tryz.underlying5 Tryz.underlying3 rfl (by rw [wrap64_in (by omega) (by omega)])) ?_
      refine WL_val rfl rfl rfl (R_addR (r := ((u.s * 31 + x.toNat : Nat) : Int)) rfl rfl rfl (by rw [wrap64_in (by omega) (by omega)]; omega)) ?_
      refine WL_val rfl rfl rfl (R_remR (r := (sumB ((innF k body).take (u.i + 1)) : Int)) rfl rfl rfl (by decide) (by rw [take_next hx, sumB_app, ← hs, Int.tmod_eq_emod_of_nonneg (by omega), Nat.mul_comm 31]; omega)) ?_
      refine WL_val rfl rfl rfl (R_assign rfl rfl) ?_
      refine WL_nil ?_
      refine WQ_code ?_
      refine WC_region ?_
      refine WL_val rfl rfl rfl (R_move rfl rfl) ?_
      refine WL_val rfl rfl rfl (R_add rfl rfl rfl (by omega)) ?_
      refine WL_val rfl rfl rfl (R_assign rfl rfl) ?_
      refine WL_nil ?_
      refine WQ_nextF (⟨u.i + 1, sumB ((innF k body).take (u.i + 1))⟩) (⟨by dsimp only; omega, rfl⟩) (by dsimp only; omega) leZ (psZ) rfl (pqD)
    · have hul : u.i = (innF k body).length := by omega
      have hs8 := sumB_lt ((innF k body).take u.i)
      rw [← hs] at hs8
      have hE9 : y.L ++ twoB u.s = encF k body := by rw [hL9, hs, hul, List.take_length]; rfl
      refine WC_exit ?_
      refine WQ_code ?_
      refine WC_seq ?_
      refine WC_region ?_
      refine WL_val rfl rfl rfl (R_move rfl rfl) ?_
      refine WL_val rfl rfl rfl (R_move rfl rfl) ?_
      refine WL_val rfl rfl rfl (R_quoR (r := ((u.s / 256 : Nat) : Int)) rfl rfl rfl (by decide) (by rw [Int.tdiv_eq_ediv_of_nonneg (by omega), wrap64_in (by omega) (by omega)]; omega)) ?_
      refine WL_val rfl rfl rfl (R_conv (r := ((UInt8.ofNat (u.s / 256)).toNat : Int)) rfl Tryz.underlying3 Tryz.underlying5 rfl (u8_of _)) ?_
      refine WL_val rfl rfl rfl (R_move rfl rfl) ?_
      refine WL_val rfl rfl rfl (R_remR (r := ((u.s % 256 : Nat) : Int)) rfl rfl rfl (by decide) (by rw [Int.tmod_eq_emod_of_nonneg (by omega)]; omega)) ?_
      refine WL_val rfl rfl rfl (R_conv (r := ((UInt8.ofNat u.s).toNat : Int)) rfl Tryz.underlying3 Tryz.underlying5 rfl (u8_rem _)) ?_
      refine WL_do rfl rfl rfl (D_buildSlice rfl si26 rfl rfl rfl) ?_
      rintro _ _ ⟨b4, rfl, rfl⟩
      refine WL_do rfl rfl rfl (D_append rfl si26 rfl hO plD rfl mmD (atZ : At _ 0 [_, _]) rfl rfl (by omega) (by omega)) ?_
      rintro _ _ ⟨ob9, c9, tl9, rfl, own9, rfl⟩
      rw [show bvs y.L ++ [Value.int .u8 ((UInt8.ofNat (u.s / 256)).toNat : Int), Value.int .u8 ((UInt8.ofNat u.s).toNat : Int)] = bvs (y.L ++ twoB u.s) from (by rw [bvs_app]; rfl), show y.L.length + 2 = (y.L ++ twoB u.s).length from by simp [twoB]] at own9
      rw [show bvs y.L ++ [Value.int .u8 ((UInt8.ofNat (u.s / 256)).toNat : Int), Value.int .u8 ((UInt8.ofNat u.s).toNat : Int)] = bvs (y.L ++ twoB u.s) from (by rw [bvs_app]; rfl)]
      refine WL_set (s := 58) (v := slV ob9 (y.L ++ twoB u.s).length c9) rfl (by rw [show y.L.length + 2 = (y.L ++ twoB u.s).length from by simp [twoB]]) ?_
      refine WL_val rfl rfl rfl (R_assign rfl rfl) ?_
      refine WL_nil ?_
      refine WQ_code ?_
      refine WC_ret ?_
      refine WQ_ret rfl rfl (.cons (.tmp rfl) .nil) rfl (by
          rw [← hE9]
          exact ⟨ob9, c9, tl9, rfl, own9, rfl⟩) (pqD)
theorem wfst_ok {M : Heap} {l : Bs} {oa : Option Addr} {c : Nat} (hr : RdM encY M oa l) (hl : l.length ≤ 1000000) (hc : l.length ≤ c) : Spec Tryz.prog 56 [.slice oa l.length c] M (fun r H' => match nxt l with
    | .wait => r = .tuple #[.agg #[.int .u8 0, .slice none 0 0], .int .i64 0, .int .i64 0] ∧ H' = M
    | .bad e => r = .tuple #[.agg #[.int .u8 0, .slice none 0 0], .int .i64 0, .int .i64 e] ∧ H' = M
    | .got k body n => ∃ o c2 tl, r = .tuple #[.agg #[.int .u8 (k.toNat : Int), slV o body.length c2], .int .i64 (n : Int), .int .i64 0] ∧ H' = [⟨o, cl (bvs body ++ tl) 5⟩] ++ M ∧ Own o body.length c2 1 (bvs body) tl) := by
  refine Spec.of (E := [(0, .slice oa l.length c)]) Tryz.func56 rfl (by kernel_rfl) Tryz.ntmps56 rfl rfl (fun w => ?_)
  refine WC_seq ?_
  refine WC_region ?_
  refine WL_do rfl rfl rfl (D_alloc rfl zv112) ?_
  rintro _ _ ⟨b1, rfl, rfl⟩
  refine WL_val rfl rfl rfl (R_assign rfl rfl) ?_
  refine WL_val rfl rfl rfl (R_assign rfl rfl) ?_
  refine WL_nil ?_
  refine WQ_code ?_
  refine WC_seq ?_
  refine WC_seq ?_
  refine WC_region ?_
  refine WL_val rfl rfl rfl (R_move rfl rfl) ?_
  refine WL_val rfl rfl rfl (R_len rfl Tryz.underlying26 rfl) ?_
  refine WL_val rfl rfl rfl (R_gtr rfl rfl rfl) ?_
  refine WL_val rfl rfl rfl (R_move rfl rfl) ?_
  refine WL_splitD (s := 11) rfl (fun c1 => ?_) (fun c1 => ?_)
  · have h0 : ¬ l.length = 0 := by have := c1; omega
    refine WL_val rfl rfl rfl (R_move rfl rfl) ?_
    obtain ⟨x0, hx0⟩ := getE (T := l) (i := 0) (by omega)
    obtain ⟨ent, hm, hr9⟩ := RdM.b hr
    obtain ⟨rb, rk, rcs, re, rfr, rfl, rfl, hat⟩ := hr9 (by omega)
    refine WL_val rfl rfl rfl (R_indexAddr rfl Tryz.underlying26 Tryz.sizeOf5 rfl rfl (by omega)) ?_
    refine WL_val rfl rfl rfl (R_loadG (v := .int .u8 (x0.toNat : Int)) rfl sc5 rfl (pulls_mem (pqD : Pulls M _ _) hm) (by simpa using hat 0 _ (bvs_get hx0))) ?_
    refine WL_val rfl rfl rfl (R_neq rfl rfl rfl) ?_
    refine WL_val rfl rfl rfl (R_pickT rfl rfl rfl) ?_
    refine WL_nil ?_
    refine WQ_code ?_
    refine WC_dec rfl (fun c2 => ?_) (fun c2 => ?_)
    · have hN : nxt l = .bad 6 := nxt_mark h0 hx0 (fun e => c2 (by rw [e]; rfl))
      refine WC_seq ?_
      refine WC_region ?_
      refine WL_val rfl rfl rfl (R_build rfl zv112 pl112 rfl rfl) ?_
      refine WL_do0 rfl rfl (D_store (vs := [_, _]) rfl Tryz.sizeOf112 rfl rfl rfl rfl rfl (plD) (by exact Nat.le_of_ble_eq_true rfl)) ?_
      rintro _ _ rfl
      refine WL_val rfl rfl rfl (R_assign rfl rfl) ?_
      refine WL_val rfl rfl rfl (R_assign rfl rfl) ?_
      refine WL_nil ?_
      refine WQ_code ?_
      refine WC_ret ?_
      refine WQ_ret rfl rfl (.cons (.cell (vs := [_, _]) rfl ag112 (mmD) rfl (atZ)) (.cons (.tmp rfl) (.cons (.tmp rfl) .nil))) rfl (by
          rw [hN]
          first | exact ⟨rfl, rfl⟩ | exact ⟨y.o, y.c, y.tl, rfl, rfl, hO⟩) (pqD)
    · have hm0 : x0 = 197 := u8_eq (Decidable.byContradiction c2)
      refine WC_skip ?_
      refine WQ_code ?_
      refine WC_seq ?_
      refine WC_seq ?_
      refine WC_region ?_
      refine WL_val rfl rfl rfl (R_move rfl rfl) ?_
      refine WL_val rfl rfl rfl (R_len rfl Tryz.underlying26 rfl) ?_
      refine WL_val rfl rfl rfl (R_lss rfl rfl rfl) ?_
      refine WL_nil ?_
      refine WQ_code ?_
      refine WC_dec rfl (fun c3 => ?_) (fun c3 => ?_)
      · have hN : nxt l = .wait := nxt_four h0 hx0 hm0 (by omega)
        refine WC_seq ?_
        refine WC_region ?_
        refine WL_val rfl rfl rfl (R_build rfl zv112 pl112 rfl rfl) ?_
        refine WL_do0 rfl rfl (D_store (vs := [_, _]) rfl Tryz.sizeOf112 rfl rfl rfl rfl rfl (plD) (by exact Nat.le_of_ble_eq_true rfl)) ?_
        rintro _ _ rfl
        refine WL_val rfl rfl rfl (R_assign rfl rfl) ?_
        refine WL_val rfl rfl rfl (R_assign rfl rfl) ?_
        refine WL_nil ?_
        refine WQ_code ?_
        refine WC_ret ?_
        refine WQ_ret rfl rfl (.cons (.cell (vs := [_, _]) rfl ag112 (mmD) rfl (atZ)) (.cons (.tmp rfl) (.cons (.tmp rfl) .nil))) rfl (by
            rw [hN]
            first | exact ⟨rfl, rfl⟩ | exact ⟨y.o, y.c, y.tl, rfl, rfl, hO⟩) (pqD)
      · have h4 : ¬ l.length < 4 := by omega
        refine WC_skip ?_
        refine WQ_code ?_
        refine WC_seq ?_
        refine WC_draw _ [(0, true), (1, true), (2, true), (3, true), (4, true), (5, true), (6, true), (7, true), (8, true), (9, true), (10, true)] followsMixed rfl rfl (by kernel_rfl) .all ?_
        obtain ⟨x2, hx2⟩ := getE (T := l) (i := 2) (by omega)
        obtain ⟨x3, hx3⟩ := getE (T := l) (i := 3) (by omega)
        obtain ⟨x1, hx1⟩ := getE (T := l) (i := 1) (by omega)
        have hlg := lngB_of hx2 hx3
        have hb2 := u8_lt x2
        have hb3 := u8_lt x3
        have h5 := nxt_five h0 hx0 hm0 h4
        rw [hlg] at h5
        obtain ⟨gg, hgg⟩ : ∃ q, q = x2.toNat * 256 + x3.toNat := ⟨_, rfl⟩
        rw [← hgg] at h5 hlg
        refine WM_val rfl rfl rfl rfl (R_move rfl rfl) ?_
        refine WM_val rfl rfl rfl rfl (R_indexAddr rfl Tryz.underlying26 Tryz.sizeOf5 rfl rfl (by omega)) ?_
        refine WM_val rfl rfl rfl rfl (R_loadG (v := .int .u8 (x2.toNat : Int)) rfl sc5 rfl (pulls_mem (pqD : Pulls M _ _) hm) (by simpa using hat 2 _ (bvs_get hx2))) ?_
        refine WM_val rfl rfl rfl rfl (R_conv (r := (x2.toNat : Int)) rfl Tryz.underlying5 Tryz.underlying3 rfl (by rw [wrap64_in (by omega) (by omega)])) ?_
        refine WM_val rfl rfl rfl rfl (R_mulR (r := ((256 * x2.toNat : Nat) : Int)) rfl rfl rfl (by rw [wrap64_in (by omega) (by omega)]; omega)) ?_
        refine WM_val rfl rfl rfl rfl (R_move rfl rfl) ?_
        refine WM_val rfl rfl rfl rfl (R_indexAddr rfl Tryz.underlying26 Tryz.sizeOf5 rfl rfl (by omega)) ?_
        refine WM_val rfl rfl rfl rfl (R_loadG (v := .int .u8 (x3.toNat : Int)) rfl sc5 rfl (pulls_mem (pqD : Pulls M _ _) hm) (by simpa using hat 3 _ (bvs_get hx3))) ?_
        refine WM_val rfl rfl rfl rfl (R_conv (r := (x3.toNat : Int)) rfl Tryz.underlying5 Tryz.underlying3 rfl (by rw [wrap64_in (by omega) (by omega)])) ?_
        refine WM_val rfl rfl rfl rfl (R_addR (r := ((gg : Nat) : Int)) rfl rfl rfl (by rw [hgg, wrap64_in (by omega) (by omega)]; omega)) ?_
        refine WM_val rfl rfl rfl rfl (R_assign rfl rfl) ?_
        refine WM_nil ?_
        refine WQ_code ?_
        refine WC_seq ?_
        refine WC_seq ?_
        refine WC_region ?_
        refine WL_val rfl rfl rfl (R_move rfl rfl) ?_
        refine WL_val rfl rfl rfl (R_gtr rfl rfl rfl) ?_
        refine WL_nil ?_
        refine WQ_code ?_
        refine WC_dec rfl (fun c4 => ?_) (fun c4 => ?_)
        · have hN : nxt l = .bad 5 := by rw [h5, if_pos (by omega)]
          refine WC_seq ?_
          refine WC_region ?_
          refine WL_val rfl rfl rfl (R_build rfl zv112 pl112 rfl rfl) ?_
          refine WL_do0 rfl rfl (D_store (vs := [_, _]) rfl Tryz.sizeOf112 rfl rfl rfl rfl rfl (plD) (by exact Nat.le_of_ble_eq_true rfl)) ?_
          rintro _ _ rfl
          refine WL_val rfl rfl rfl (R_assign rfl rfl) ?_
          refine WL_val rfl rfl rfl (R_assign rfl rfl) ?_
          refine WL_nil ?_
          refine WQ_code ?_
          refine WC_ret ?_
          refine WQ_ret rfl rfl (.cons (.cell (vs := [_, _]) rfl ag112 (mmD) rfl (atZ)) (.cons (.tmp rfl) (.cons (.tmp rfl) .nil))) rfl (by
              rw [hN]
              first | exact ⟨rfl, rfl⟩ | exact ⟨y.o, y.c, y.tl, rfl, rfl, hO⟩) (pqD)
        · rw [if_neg (show ¬ 1024 < gg by omega)] at h5
          refine WC_skip ?_
          refine WQ_code ?_
          refine WC_seq ?_
          refine WC_seq ?_
          refine WC_region ?_
          refine WL_val rfl rfl rfl (R_move rfl rfl) ?_
          refine WL_val rfl rfl rfl (R_len rfl Tryz.underlying26 rfl) ?_
          refine WL_val rfl rfl rfl (R_move rfl rfl) ?_
          refine WL_val rfl rfl rfl (R_addR (r := ((gg + 6 : Nat) : Int)) rfl rfl rfl (by rw [wrap64_in (by omega) (by omega)]; omega)) ?_
          refine WL_val rfl rfl rfl (R_lss rfl rfl rfl) ?_
          refine WL_nil ?_
          refine WQ_code ?_
          refine WC_dec rfl (fun c5 => ?_) (fun c5 => ?_)
          · have hN : nxt l = .wait := by rw [h5, if_pos (by omega)]
            refine WC_seq ?_
            refine WC_region ?_
            refine WL_val rfl rfl rfl (R_build rfl zv112 pl112 rfl rfl) ?_
            refine WL_do0 rfl rfl (D_store (vs := [_, _]) rfl Tryz.sizeOf112 rfl rfl rfl rfl rfl (plD) (by exact Nat.le_of_ble_eq_true rfl)) ?_
            rintro _ _ rfl
            refine WL_val rfl rfl rfl (R_assign rfl rfl) ?_
            refine WL_val rfl rfl rfl (R_assign rfl rfl) ?_
            refine WL_nil ?_
            refine WQ_code ?_
            refine WC_ret ?_
            refine WQ_ret rfl rfl (.cons (.cell (vs := [_, _]) rfl ag112 (mmD) rfl (atZ)) (.cons (.tmp rfl) (.cons (.tmp rfl) .nil))) rfl (by
                rw [hN]
                first | exact ⟨rfl, rfl⟩ | exact ⟨y.o, y.c, y.tl, rfl, rfl, hO⟩) (pqD)
          · rw [if_neg (show ¬ l.length < gg + 6 by omega)] at h5
            have hbl : ((l.drop 4).take gg).length = gg := by simp; omega
            have henc := enc_eq (by rw [hx0, hm0]) hx1 hx2 hx3 hgg (by omega)
            refine WC_skip ?_
            refine WQ_code ?_
            refine WC_seq ?_
            refine WC_region ?_
            refine WL_val rfl rfl rfl (R_move rfl rfl) ?_
            refine WL_val rfl rfl rfl (R_indexAddr rfl Tryz.underlying26 Tryz.sizeOf5 rfl rfl (by omega)) ?_
            refine WL_val rfl rfl rfl (R_loadG (v := .int .u8 (x1.toNat : Int)) rfl sc5 rfl (pulls_mem (pqD : Pulls M _ _) hm) (by simpa using hat 1 _ (bvs_get hx1))) ?_
            refine WL_val rfl rfl rfl (R_build rfl zv112 pl112 rfl rfl) ?_
            refine WL_do rfl rfl rfl (D_alloc rfl zv112) ?_
            rintro _ _ ⟨b2, rfl, rfl⟩
            refine WL_do0 rfl rfl (D_store (vs := [_, _]) rfl Tryz.sizeOf112 rfl rfl rfl rfl rfl (plD) (by exact Nat.le_of_ble_eq_true rfl)) ?_
            rintro _ _ rfl
            refine WL_nil ?_
            refine WQ_code ?_
            refine WC_seq ?_
            refine WC_seq ?_
            refine WC_region ?_
            refine WL_val rfl rfl rfl (R_assign rfl rfl) ?_
            refine WL_nil ?_
            refine WQ_code ?_
            refine WC_block ?_
            refine WC_none 5 ?_
            refine WC_loopF (G := WbW) [7, 45, 46, 47, 48, 49, 50, 51, 52, 53, 54, 55, 56, 57, 58, 59] (fun y => y.k ≤ gg ∧ y.L = ((l.drop 4).take gg).take y.k ∧ y.L.length = y.k ∧ Own y.o y.L.length y.c 1 (bvs y.L) y.tl) (fun y => [(7, .int .i64 (y.k : Int))]) (fun y => [⟨some b2, cl [.int .u8 (x1.toNat : Int), slV y.o y.L.length y.c] 112⟩, ⟨y.o, cl (bvs y.L ++ y.tl) 5⟩]) (fun y => gg - y.k) (⟨0, 0, [], none, 0, []⟩) (⟨Nat.zero_le _, rfl, rfl, Own.empty 1⟩) leZ (pqD) ?_
            rintro y ⟨hk, hL, hLl, hO⟩
            refine WC_seq ?_
            refine WC_seq ?_
            refine WC_region ?_
            refine WL_val rfl rfl rfl (R_move rfl rfl) ?_
            refine WL_val rfl rfl rfl (R_move rfl rfl) ?_
            refine WL_val rfl rfl rfl (R_lss rfl rfl rfl) ?_
            refine WL_nil ?_
            refine WQ_code ?_
            refine WC_dec rfl (fun c6 => ?_) (fun c6 => ?_)
            · refine WC_skip ?_
              refine WQ_code ?_
              refine WC_seq ?_
              refine WC_block ?_
              refine WC_drawY (⟨some b2, _⟩ :: [⟨y.o, _⟩]) [(b2, 1, slV y.o y.L.length y.c)] [10] [(0, false), (1, true)] [(2, true), (3, true), (4, true), (5, true), (6, true), (7, false), (8, false), (9, true), (10, false)] followsMixed rfl rfl (by kernel_rfl) (pqD) (.cons (mmD) rfl .nil) ?_
              refine WYE_val rfl rfl rfl rfl (R_fieldAddr rfl fa112_1 rfl) ?_
              refine WYE_early rfl rfl rfl rfl rfl sc26 rfl (by repeat (first | exact List.Mem.head _ | refine List.Mem.tail _ ?_)) ?_
              refine WYE_rest ?_
              refine WY_val rfl rfl rfl rfl (R_move rfl rfl) ?_
              refine WY_val rfl rfl rfl rfl (R_move rfl rfl) ?_
              refine WY_val rfl rfl rfl rfl (R_addR (r := ((4 + y.k : Nat) : Int)) rfl rfl rfl (by rw [wrap64_in (by omega) (by omega)]; omega)) ?_
              obtain ⟨x, hx⟩ := getE (T := (l.drop 4).take gg) (i := y.k) (by rw [hbl]; omega)
              have hxl : l[4 + y.k]? = some x := by rw [List.getElem?_take_of_lt (by omega), List.getElem?_drop] at hx; exact hx
              refine WY_val rfl rfl rfl rfl (R_indexAddr rfl Tryz.underlying26 Tryz.sizeOf5 rfl rfl (by omega)) ?_
              refine WY_val rfl rfl rfl rfl (R_loadG (v := .int .u8 (x.toNat : Int)) rfl sc5 rfl (pulls_mem (pqD : Pulls M _ _) hm) (by rw [Nat.mul_one]; exact hat (4 + y.k) _ (bvs_get hxl))) ?_
              refine WY_do rfl rfl rfl rfl (D_buildSlice rfl si26 rfl rfl rfl) ?_
              rintro _ _ ⟨b3, rfl, rfl⟩
              refine ⟨⟨_, pqD⟩, .inr (.cons (mmD) rfl .nil), ?_⟩
              refine WY_do rfl rfl rfl rfl (D_append rfl si26 rfl hO plD rfl mmD (atZ : At _ 0 [_]) rfl rfl (by omega) (by omega)) ?_
              rintro _ _ ⟨ob9, c9, tl9, rfl, own9, rfl⟩
              refine ⟨⟨_, pqD⟩, .inr (.cons (mmD) rfl .nil), ?_⟩
              have e58 : bvs y.L ++ [Value.int .u8 (x.toNat : Int)] = bvs (y.L ++ [x]) := by rw [bvs_app]; rfl
              rw [e58, show y.L.length + 1 = (y.L ++ [x]).length from by simp] at own9 ⊢
              refine WY_val rfl rfl rfl rfl (R_fieldAddr rfl fa112_1 rfl) ?_
              refine WY_do0 rfl rfl rfl (D_store (vs := [_]) rfl Tryz.sizeOf26 rfl rfl rfl rfl rfl (plD) (by exact Nat.le_of_ble_eq_true rfl)) ?_
              rintro _ _ rfl
              refine ⟨⟨_, pqD⟩, .inl rfl, ?_⟩
              refine WY_nil ?_
              refine WQ_code ?_
              refine WC_region ?_
              refine WL_val rfl rfl rfl (R_move rfl rfl) ?_
              refine WL_val rfl rfl rfl (R_add rfl rfl rfl (by omega)) ?_
              refine WL_val rfl rfl rfl (R_assign rfl rfl) ?_
              refine WL_nil ?_
              refine WQ_nextF (⟨y.k + 1, 0, y.L ++ [x], ob9, c9, tl9⟩) (⟨by dsimp only; omega, by dsimp only; rw [take_next hx, hL], by dsimp only; rw [List.length_append]; simp; omega, own9⟩) (by dsimp only; omega) leZ (psZ) rfl (pqD)
            · have hkl : y.k = gg := by omega
              have hL9 : y.L = (l.drop 4).take gg := by rw [hL, hkl, List.take_of_length_le (by omega)]
              refine WC_exit ?_
              refine WQ_code ?_
              refine WC_seq ?_
              refine WC_seq ?_
              refine WC_draw _ [(0, true), (3, true), (4, true), (5, true), (6, true), (7, true), (1, false), (2, false), (8, true)] followsMixed rfl rfl (by kernel_rfl) .all ?_
              refine WM_val rfl rfl rfl rfl (R_loadA (vs := [_, _]) rfl ag112 rfl (mmD) rfl (atZ)) ?_
              refine WM_val rfl rfl rfl rfl (R_move rfl rfl) ?_
              refine WM_val rfl rfl rfl rfl (R_move rfl rfl) ?_
              refine WM_val rfl rfl rfl rfl (R_addR (r := ((gg + 6 : Nat) : Int)) rfl rfl rfl (by rw [wrap64_in (by omega) (by omega)]; omega)) ?_
              refine WM_val rfl rfl rfl rfl (R_sliceTo (m := gg + 6) rfl Tryz.underlying26 Tryz.sizeOf5 rfl rfl (by omega)) ?_
              refine WM_set (s := 66) (v := .slice (some ⟨rb, rk, none⟩) (l.take (gg + 6)).length c) rfl (by rw [show (l.take (gg + 6)).length = gg + 6 from by simp; omega]) ?_
              refine WM_val rfl rfl rfl rfl (R_byteStr rfl Tryz.underlying26 Tryz.underlying5 Tryz.underlying9 rfl (RdB.take (rd_all hat) (gg + 6)) (pulls_mem (pqD : Pulls M _ _) hm)) ?_
              refine WM_do rfl rfl rfl rfl (D_call (wenc_ok (M := [⟨y.o, cl (bvs y.L ++ y.tl) 5⟩]) x1 (RdM.own hO []) (by rw [hLl]; omega)) rfl rfl rfl rfl (pqD)) ?_
              rintro _ _ ⟨_, ⟨o8, c8, tl8, rfl, own8, rfl⟩, rfl⟩
              refine ⟨⟨_, pqD⟩, ?_⟩
              refine WM_do rfl rfl rfl rfl (Runs.does (R_byteStr rfl Tryz.underlying26 Tryz.underlying5 Tryz.underlying9 rfl (RdB.own (e := 5) own8) mmD)) ?_
              rintro _ _ ⟨rfl, rfl⟩
              refine ⟨⟨_, pqD⟩, ?_⟩
              refine WM_val rfl rfl rfl rfl (R_strNe rfl Tryz.underlying9 rfl rfl) ?_
              refine WM_nil ?_
              refine WQ_code ?_
              refine WC_dec rfl (fun c7 => ?_) (fun c7 => ?_)
              · have hN : nxt l = .bad 10 := by rw [h5, if_pos (fun e => c7 (by rw [byt_mk, byt_mk, hL9]; exact henc.2 e))]
                refine WC_seq ?_
                refine WC_region ?_
                refine WL_val rfl rfl rfl (R_build rfl zv112 pl112 rfl rfl) ?_
                refine WL_do0 rfl rfl (D_store (vs := [_, _]) rfl Tryz.sizeOf112 rfl rfl rfl rfl rfl (plD) (by exact Nat.le_of_ble_eq_true rfl)) ?_
                rintro _ _ rfl
                refine WL_val rfl rfl rfl (R_assign rfl rfl) ?_
                refine WL_val rfl rfl rfl (R_assign rfl rfl) ?_
                refine WL_nil ?_
                refine WQ_code ?_
                refine WC_ret ?_
                refine WQ_ret rfl rfl (.cons (.cell (vs := [_, _]) rfl ag112 (mmD) rfl (atZ)) (.cons (.tmp rfl) (.cons (.tmp rfl) .nil))) rfl (by
                    rw [hN]
                    first | exact ⟨rfl, rfl⟩ | exact ⟨y.o, y.c, y.tl, rfl, rfl, hO⟩) (pqD)
              · have hN : nxt l = .got x1 y.L (gg + 6) := by rw [h5, if_neg (fun e => e (henc.1 (by rw [← hL9]; exact wbyt (Decidable.byContradiction c7)))), hx1, hL9]; rfl
                refine WC_skip ?_
                refine WQ_code ?_
                refine WC_seq ?_
                refine WC_region ?_
                refine WL_val rfl rfl rfl (R_loadA (vs := [_, _]) rfl ag112 rfl (mmD) rfl (atZ)) ?_
                refine WL_val rfl rfl rfl (R_move rfl rfl) ?_
                refine WL_val rfl rfl rfl (R_addR (r := ((gg + 6 : Nat) : Int)) rfl rfl rfl (by rw [wrap64_in (by omega) (by omega)]; omega)) ?_
                refine WL_do0 rfl rfl (D_store (vs := [_, _]) rfl Tryz.sizeOf112 rfl rfl rfl rfl rfl (plD) (by exact Nat.le_of_ble_eq_true rfl)) ?_
                rintro _ _ rfl
                refine WL_val rfl rfl rfl (R_assign rfl rfl) ?_
                refine WL_val rfl rfl rfl (R_assign rfl rfl) ?_
                refine WL_nil ?_
                refine WQ_code ?_
                refine WC_ret ?_
                refine WQ_ret rfl rfl (.cons (.cell (vs := [_, _]) rfl ag112 (mmD) rfl (atZ)) (.cons (.tmp rfl) (.cons (.tmp rfl) .nil))) rfl (by
                    rw [hN]
                    first | exact ⟨rfl, rfl⟩ | exact ⟨y.o, y.c, y.tl, rfl, rfl, hO⟩) (pqD)
  · have h00 : l.length = 0 := by have := c1; omega
    refine WL_skip rfl rfl rfl ?_
    refine WL_skip rfl rfl rfl ?_
    refine WL_skip rfl rfl rfl ?_
    refine WL_skip rfl rfl rfl ?_
    refine WL_val rfl rfl rfl (R_pickF rfl rfl rfl) ?_
    refine WL_nil ?_
    refine WQ_code ?_
    refine WC_F rfl ?_
    refine WC_skip ?_
    refine WQ_code ?_
    refine WC_seq ?_
    refine WC_seq ?_
    refine WC_region ?_
    refine WL_val rfl rfl rfl (R_move rfl rfl) ?_
    refine WL_val rfl rfl rfl (R_len rfl Tryz.underlying26 rfl) ?_
    refine WL_val rfl rfl rfl (R_lss rfl rfl rfl) ?_
    refine WL_nil ?_
    refine WQ_code ?_
    refine WC_dT rfl (by omega) ?_
    refine WC_seq ?_
    refine WC_region ?_
    refine WL_val rfl rfl rfl (R_build rfl zv112 pl112 rfl rfl) ?_
    refine WL_do0 rfl rfl (D_store (vs := [_, _]) rfl Tryz.sizeOf112 rfl rfl rfl rfl rfl (plD) (by exact Nat.le_of_ble_eq_true rfl)) ?_
    rintro _ _ rfl
    refine WL_val rfl rfl rfl (R_assign rfl rfl) ?_
    refine WL_val rfl rfl rfl (R_assign rfl rfl) ?_
    refine WL_nil ?_
    refine WQ_code ?_
    refine WC_ret ?_
    refine WQ_ret rfl rfl (.cons (.cell (vs := [_, _]) rfl ag112 (mmD) rfl (atZ)) (.cons (.tmp rfl) (.cons (.tmp rfl) .nil))) rfl (by
        rw [nxt_nil h00]
        first | exact ⟨rfl, rfl⟩ | exact ⟨y.o, y.c, y.tl, rfl, rfl, hO⟩) (pqD)
end Go.Proofs.YtdelhikejgoffaaGreat
end
section
set_option linter.unusedVariables false
set_option maxRecDepth 20000
set_option maxHeartbeats 2000000
namespace Go.Proofs.YtdelhikejgoffaaGreat
theorem wsent_ok (k : UInt8) {M : Heap} {out : Bs} {oa : Option Addr} {c : Nat} (hr : RdM encY M oa out) {body : Bs} {ob : Option Addr} {cb : Nat} (hb : RdM encY M ob body) (ho : out.length ≤ 1000000) (hl : body.length ≤ 1024) :
    Spec Tryz.prog 54 [.slice oa out.length c, .int .u8 (k.toNat : Int), .slice ob body.length cb] M (fun r H' => ∃ o c tl, r = slV o (out ++ encF k body).length c ∧ Own o (out ++ encF k body).length c 1 (bvs (out ++ encF k body)) tl ∧ H' = [⟨o, cl (bvs (out ++ encF k body) ++ tl) 5⟩] ++ M) := by
  have hel := encF_len k body
  refine Spec.of (E := [(0, .slice oa out.length c), (1, .int .u8 (k.toNat : Int)), (2, .slice ob body.length cb)]) Tryz.func54 rfl (by kernel_rfl) Tryz.ntmps54 rfl rfl (fun w => ?_)
  refine WC_seq ?_
  refine WC_region ?_
  refine WL_val rfl rfl rfl (R_assign rfl rfl) ?_
  refine WL_nil ?_
  refine WQ_code ?_
  refine WC_seq ?_
  refine WC_region ?_
  refine WL_val rfl rfl rfl (R_move rfl rfl) ?_
  refine WL_do rfl rfl rfl (D_appendIn rfl si26 rfl rfl (RdM.inn hr pqD) (by rw [Nat.mul_one]; exact bvs_len out) (by omega) (by omega)) ?_
  rintro _ _ ⟨o9, c9, tl9, rfl, own9, rfl⟩
  refine WL_val rfl rfl rfl (R_move rfl rfl) ?_
  refine WL_val rfl rfl rfl (R_move rfl rfl) ?_
  refine WL_val rfl rfl rfl (R_build rfl zv112 pl112 rfl rfl) ?_
  refine WL_do rfl rfl rfl (D_call (wenc_ok k hb hl) rfl rfl rfl rfl (pqD)) ?_
  rintro _ _ ⟨_, ⟨o8, c8, tl8, rfl, own8, rfl⟩, rfl⟩
  refine WL_do rfl rfl rfl (D_appendBO rfl si26 rfl own9 plD rfl (RdB.own own8) mmD (by omega) (by omega)) ?_
  rintro _ _ ⟨o7, c7, tl7, rfl, own7, rfl⟩
  refine WL_val rfl rfl rfl (R_assign rfl rfl) ?_
  refine WL_nil ?_
  refine WQ_code ?_
  refine WC_ret ?_
  refine WQ_ret rfl rfl (.cons (.tmp rfl) .nil) rfl (by
      have e1 : bvs out ++ bvs (encF k body) = bvs (out ++ encF k body) := (bvs_app _ _).symm
      have e2 : out.length + (encF k body).length = (out ++ encF k body).length := by rw [List.length_append]
      exact ⟨o7, c7, tl7, congrArg (fun n => slV o7 n c7) e2, by rw [← e1, ← e2]; exact own7, by rw [← e1]⟩) (pqD)
end Go.Proofs.YtdelhikejgoffaaGreat
end
section
set_option linter.unusedVariables false
set_option maxRecDepth 20000
set_option maxHeartbeats 1000000
namespace Go.Proofs.YtdelhikejgoffaaGreat
/-- A request of the reference's queue, and where its body lies. -/
structure Rw where
  id : Int
  dl : Nat
  body : Bs
  oa : Option Addr
  c : Nat
def Rw.v (r : Rw) : Rr := ⟨r.id, r.dl, r.body⟩
abbrev encW (r : Rw) : List Value := [.int .i64 r.id, .int .u64 (r.dl : Int), .slice r.oa r.body.length r.c]
theorem encW3 (r : Rw) : (encW r).length = 3 := rfl
/-- Where a reference's server has its lists. -/
structure SvV where
  a1 : Option Addr
  c1 : Nat
  a2 : Option Addr
  c2 : Nat
  Q : List Rw
  a3 : Option Addr
  c3 : Nat
  a4 : Option Addr
  c4 : Nat
structure SvR (M : Heap) (m : SvV) (u : PV) : Prop where
  opn : RdM encI M m.a1 u.opn
  qu : RdM encW M m.a2 m.Q
  qv : m.Q.map Rw.v = u.qu
  qb : ∀ r ∈ m.Q, RdM encY M r.oa r.body
  out : RdM encY M m.a3 u.out
  bs : RdM encY M m.a4 u.bs
  qc : m.Q.length ≤ m.c2
  oc : u.out.length ≤ m.c3
  bc : u.bs.length ≤ m.c4
theorem SvR.up {M : Heap} {m : SvV} {u : PV} (h : SvR M m u) (N : Heap) : SvR (N ++ M) m u := ⟨h.opn.up N, h.qu.up N, h.qv, fun r hr => (h.qb r hr).up N, h.out.up N, h.bs.up N, h.qc, h.oc, h.bc⟩
/-- Sizes, and what makes the two ways of leaving out a request the same. -/
structure PVJ (u : PV) : Prop where
  opn : u.opn.length ≤ 32
  nd : u.opn.Nodup
  le : ∀ i ∈ u.opn, 0 ≤ i ∧ i ≤ u.last
  qo : ∀ r ∈ u.qu, r.id ∈ u.opn
  last : u.last < 4294967296
def neI (id x : Int) : Bool := decide (x ≠ id)
def neW (id : Int) (r : Rw) : Bool := decide (r.id ≠ id)
theorem flt_next {α : Type} {q : α → Bool} {l : List α} {k : Nat} {c : α} (h : l[k]? = some c) : (l.take (k + 1)).filter q = (l.take k).filter q ++ if q c then [c] else [] := by
  rw [take_next h, List.filter_append]; by_cases e : q c <;> simp [e]
theorem delI_flt {id : Int} : ∀ {l : List Int}, l.Nodup → delI id l = l.filter (neI id)
  | [], _ => rfl
  | x :: r, h => by
    have h2 := List.nodup_cons.1 h
    by_cases e : id = x
    · subst e
      rw [delI, if_pos rfl, List.filter_cons_of_neg (by simp [neI]), List.filter_eq_self.2 fun y hy => by
        have : y ≠ id := fun e => h2.1 (e ▸ hy)
        simp [neI, this]]
    · rw [delI, if_neg e, List.filter_cons_of_pos (by simp [neI]; exact fun q => e q.symm), delI_flt h2.2]
theorem PVJ.wo {u : PV} (h : PVJ u) (id : Int) : u.close id = { u with opn := u.opn.filter (neI id), qu := u.qu.filter (notId id) } := by
  unfold PV.close
  split
  · rw [delI_flt h.nd]
  · rename_i h1
    have h2 : ∀ x ∈ u.opn, ¬ x = id := fun x hx e => h1 (List.any_eq_true.2 ⟨x, hx, by simp [eqI, e]⟩)
    rw [List.filter_eq_self.2 (fun x hx => by simp [neI, h2 x hx]), List.filter_eq_self.2 (fun r hr => by simp [notId, h2 _ (h.qo r hr)])]
theorem neW_map (id : Int) (l : List Rw) : (l.filter (neW id)).map Rw.v = (l.map Rw.v).filter (notId id) := by
  rw [List.filter_map]
  refine congrArg _ (List.filter_congr fun r _ => ?_)
  by_cases e : r.id = id <;> simp [neW, notId, Rw.v, e]
theorem PVJ.close {u : PV} (h : PVJ u) (id : Int) : PVJ (u.close id) := by
  rw [h.wo]
  refine ⟨Nat.le_trans (List.length_filter_le ..) h.opn, h.nd.filter _, fun i hi => h.le i (List.mem_filter.1 hi).1, fun r hr => ?_, h.last⟩
  have h1 := List.mem_filter.1 hr
  refine List.mem_filter.2 ⟨h.qo r h1.1, ?_⟩
  have := h1.2
  simpa [notId, neI] using this
structure WoW where
  k : Nat
  l : List Int
  o : Option Nat
  c : Nat
  tl : List Value
end Go.Proofs.YtdelhikejgoffaaGreat
end
section
set_option linter.unusedVariables false
set_option maxRecDepth 20000
set_option maxHeartbeats 1000000
namespace Go.Proofs.YtdelhikejgoffaaGreat
theorem At.appR {cs A B : List Value} {k : Nat} (h : At cs k (A ++ B)) : At cs (k + A.length) B := fun j v hj => by
  have := h (A.length + j) v (by rw [List.getElem?_append_right (by omega)]; simpa using hj)
  rwa [← Nat.add_assoc] at this
theorem fm_len {α : Type} {enc : α → List Value} {sz : Nat} (hk : ∀ x, (enc x).length = sz) : ∀ l : List α, (l.flatMap enc).length = l.length * sz
  | [] => by simp
  | x :: r => by rw [List.flatMap_cons, List.length_append, hk, fm_len hk r, List.length_cons, Nat.succ_mul]; omega
theorem RdM.drop {α : Type} {enc : α → List Value} {sz : Nat} {M : Heap} {rb rk c : Nat} {l : List α} (h : RdM enc M (some ⟨rb, rk, none⟩) l) (hk : ∀ x, (enc x).length = sz) (hc : l.length ≤ c) (n : Nat) : RdM enc M (some ⟨rb, if c = n then rk else rk + n * sz, none⟩) (l.drop n) := by
  obtain ⟨ent, hm, hr⟩ := h
  refine ⟨ent, hm, fun hl => ?_⟩
  rw [List.length_drop] at hl
  obtain ⟨b, k, cs, e, fr, h1, h2, h3⟩ := hr (by omega)
  cases h1
  refine ⟨rb, _, cs, e, fr, rfl, h2, ?_⟩
  rw [if_neg (by omega)]
  rw [← List.take_append_drop n l, List.flatMap_append] at h3
  have h4 := h3.appR
  rwa [fm_len hk, List.length_take, Nat.min_eq_left (by omega)] at h4
theorem RdM.take {M : Heap} {oa : Option Addr} {l : Bs} (h : RdM encY M oa l) (n : Nat) : RdM encY M oa (l.take n) := by
  obtain ⟨ent, hm, hr⟩ := h.b
  exact RdM.of hm (hr.take n)
theorem RdM.none {α : Type} {enc : α → List Value} {M : Heap} (oa : Option Addr) {ent : Ent} (hm : ent ∈ M) : RdM enc M oa ([] : List α) := ⟨ent, hm, fun h => absurd h (by simp)⟩
section
variable {u : PV} {k : UInt8} {body : Bs}
theorem u8_num {k : UInt8} {n : Nat} (hn : n < 256) : k = UInt8.ofNat n ↔ k.toNat = n := by
  constructor
  · rintro rfl; rw [UInt8.toNat_ofNat']; omega
  · intro h; apply UInt8.toNat_inj.1; rw [UInt8.toNat_ofNat']; omega
end
theorem SvR.closed {M : Heap} {m : SvV} {u : PV} (h : SvR M m u) (hJ : PVJ u) (id : Int) {o1 o2 : Option Nat} {k1 k2 e1 e2 : Nat} {t1 t2 : List Value} (own1 : Own o1 (u.opn.filter (neI id)).length k1 1 ((u.opn.filter (neI id)).flatMap encI) t1) (own2 : Own o2 (m.Q.filter (neW id)).length k2 3 ((m.Q.filter (neW id)).flatMap encW) t2) :
    SvR ([⟨o1, cl ((u.opn.filter (neI id)).flatMap encI ++ t1) e1⟩, ⟨o2, cl ((m.Q.filter (neW id)).flatMap encW ++ t2) e2⟩] ++ M) { m with a1 := o1.map fun b => ⟨b, 0, none⟩, c1 := k1, a2 := o2.map fun b => ⟨b, 0, none⟩, c2 := k2, Q := m.Q.filter (neW id) } (u.close id) := by
  rw [hJ.wo]
  exact ⟨⟨_, List.mem_cons_self .., RdL.own own1⟩, ⟨_, List.mem_cons_of_mem _ (List.mem_cons_self ..), RdL.own own2⟩, by rw [← h.qv, ← neW_map], fun r hr => (h.qb r (List.mem_filter.1 hr).1).up _, h.out.up _, h.bs.up _, own2.le, h.oc, h.bc⟩
theorem SvR.close {M N : Heap} {m : SvV} {u : PV} (h : SvR M m u) (hJ : PVJ u) (id : Int) {a1 a2 : Option Addr} {k1 k2 : Nat} (h1 : RdM encI (N ++ M) a1 (u.opn.filter (neI id))) (h2 : RdM encW (N ++ M) a2 (m.Q.filter (neW id))) (hc : (m.Q.filter (neW id)).length ≤ k2) :
    SvR (N ++ M) { m with a1 := a1, c1 := k1, a2 := a2, c2 := k2, Q := m.Q.filter (neW id) } (u.close id) := by
  rw [hJ.wo]
  exact ⟨h1, h2, by rw [← h.qv, ← neW_map], fun r hr => (h.qb r (List.mem_filter.1 hr).1).up N, h.out.up N, h.bs.up N, hc, h.oc, h.bc⟩
end Go.Proofs.YtdelhikejgoffaaGreat
end
section
set_option linter.unusedVariables false
set_option maxRecDepth 20000
set_option maxHeartbeats 1000000
namespace Go.Proofs.YtdelhikejgoffaaGreat
theorem PVJ.step {u : PV} (h : PVJ u) (k : UInt8) (body : Bs) : PVJ (u.step k body).1 := by
  have hv := val4_lt body
  unfold PV.step
  split
  · split
    · exact h
    · rename_i h3
      split
      · exact ⟨h.opn, h.nd, fun i hi => by have := h.le i hi; exact ⟨this.1, by show i ≤ ((u.last + 1 : Nat) : Int); omega⟩, h.qo, by show u.last + 1 < _; omega⟩
      · rename_i h4
        have hid : valB (body.take 4) = u.last + 1 := Decidable.byContradiction h3
        refine ⟨by show (u.opn ++ _).length ≤ _; simp; omega, ?_, fun i hi => ?_, fun r hr => ?_, by show u.last + 1 < _; omega⟩
        · refine List.nodup_append.2 ⟨h.nd, by simp, fun a ha b hb e => ?_⟩
          rw [List.mem_singleton.1 hb] at e
          have := h.le a ha
          omega
        · rcases List.mem_append.1 hi with h5 | h5
          · have := h.le i h5; exact ⟨this.1, by show i ≤ ((u.last + 1 : Nat) : Int); omega⟩
          · rw [List.mem_singleton.1 h5]; exact ⟨by omega, by show _ ≤ ((u.last + 1 : Nat) : Int); omega⟩
        · rcases List.mem_append.1 hr with h5 | h5
          · exact List.mem_append_left _ (h.qo r h5)
          · rw [List.mem_singleton.1 h5]; exact List.mem_append_right _ (List.mem_singleton.2 rfl)
  · split
    · split
      · exact h
      · exact h.close _
    · exact h
theorem SvR.outed {M : Heap} {m : SvV} {u : PV} (h : SvR M m u) {l : Bs} {oS : Option Nat} {cS e : Nat} {tS : List Value} (own : Own oS l.length cS 1 (bvs l) tS) : SvR ([⟨oS, cl (bvs l ++ tS) e⟩] ++ M) { m with a3 := oS.map fun b => ⟨b, 0, none⟩, c3 := cS } { u with out := l } :=
  ⟨h.opn.up _, h.qu.up _, h.qv, fun r hr => (h.qb r hr).up _, RdM.own own M, h.bs.up _, h.qc, own.le, h.bc⟩
end Go.Proofs.YtdelhikejgoffaaGreat
end
section
set_option linter.unusedVariables false
set_option maxRecDepth 20000
set_option maxHeartbeats 1000000
namespace Go.Proofs.YtdelhikejgoffaaGreat
def dropA (oa : Option Addr) (c n sz : Nat) : Option Addr := oa.map fun a => if c = n then a else a.add (n * sz)
theorem R_sliceFromG {X : Ctx} {E : Env} {H : Heap} {o : Oper} {t e : TypeId} {x y : Operand} {oa : Option Addr} {n c sz m : Nat} {kk : IntKind} (ho : o.op = .slice t x (some y) none none) (hu : X.P.underlying t = some (.slice e)) (hs : ∀ w, (sizeOf e).run X.P w = .ok sz w)
    (hx : ev E x = some (.slice oa n c)) (hy : ev E y = some (.int kk (m : Int))) (hm : m ≤ n) : Runs X o E H (.slice (dropA oa c m sz) (n - m) (c - m)) :=
  ⟨(by rw [ho]; intro c e; cases e), fun a w ha _ => by
    cases oa with
    | none =>
      simp [execOp, ho, ha.eval hx, ha.eval hy, Instr.sliceAt, Instr.slice, Instr.sliceBounds, Instr.sliceBound, asIntOf, run_underlying hu, hs w, hm, dropA]
    | some a =>
      simp [execOp, ho, ha.eval hx, ha.eval hy, Instr.sliceAt, Instr.slice, Instr.sliceBounds, Instr.sliceBound, asIntOf, run_underlying hu, hs w, hm, dropA]
      by_cases e : c = m <;> simp [e]⟩
theorem RdM.dropG {α : Type} {enc : α → List Value} {sz : Nat} {M : Heap} {oa : Option Addr} {c : Nat} {l : List α} (h : RdM enc M oa l) (hk : ∀ x, (enc x).length = sz) (hc : l.length ≤ c) (n : Nat) : RdM enc M (dropA oa c n sz) (l.drop n) := by
  obtain ⟨ent, hm, hr⟩ := h
  refine ⟨ent, hm, fun hl => ?_⟩
  rw [List.length_drop] at hl
  obtain ⟨b, k, cs, e, fr, h1, h2, h3⟩ := hr (by omega)
  subst h1
  refine ⟨b, k + n * sz, cs, e, fr, ?_, h2, ?_⟩
  · unfold dropA; rw [Option.map_some, if_neg (by omega)]; simp [Addr.add]
  · rw [← List.take_append_drop n l, List.flatMap_append] at h3
    have h4 := h3.appR
    rwa [fm_len hk, List.length_take, Nat.min_eq_left (by omega)] at h4
section
variable {M : Heap} {l : Bs} {oa : Option Addr} {c : Nat} (hr : RdM encY M oa l)
include hr
theorem wfst_wait (hl : l.length ≤ 1000000) (hc : l.length ≤ c) (h : nxt l = .wait) : Spec Tryz.prog 56 [.slice oa l.length c] M (fun r H' => r = .tuple #[.agg #[.int .u8 0, .slice none 0 0], .int .i64 0, .int .i64 0] ∧ M = H') := by
  have h9 := wfst_ok hr hl hc
  rw [h] at h9
  exact h9.mono fun _ _ q => ⟨q.1, q.2.symm⟩
theorem wfst_bad (hl : l.length ≤ 1000000) (hc : l.length ≤ c) {e : Int} (h : nxt l = .bad e) : Spec Tryz.prog 56 [.slice oa l.length c] M (fun r H' => r = .tuple #[.agg #[.int .u8 0, .slice none 0 0], .int .i64 0, .int .i64 e] ∧ M = H') := by
  have h9 := wfst_ok hr hl hc
  rw [h] at h9
  exact h9.mono fun _ _ q => ⟨q.1, q.2.symm⟩
theorem wfst_got (hl : l.length ≤ 1000000) (hc : l.length ≤ c) {k : UInt8} {body : Bs} {n : Nat} (h : nxt l = .got k body n) : Spec Tryz.prog 56 [.slice oa l.length c] M (fun r H' => ∃ o c2 tl, r = .tuple #[.agg #[.int .u8 (k.toNat : Int), slV o body.length c2], .int .i64 (n : Int), .int .i64 0] ∧ H' = [⟨o, cl (bvs body ++ tl) 5⟩] ++ M ∧ Own o body.length c2 1 (bvs body) tl) := by
  have h9 := wfst_ok hr hl hc
  rw [h] at h9
  exact h9
end
theorem close_br (u : PV) (id : Int) : (u.close id).br = u.br ∧ (u.close id).bs = u.bs := by unfold PV.close; split <;> exact ⟨rfl, rfl⟩
def PV.fin (u : PV) (q : PV × Bs × Int × Int) : PV × Int := ({ q.1 with bs := q.2.1, rb := q.2.2.1, br := q.2.2.2 }, q.2.2.2)
theorem SvR.reb {M : Heap} {m : SvV} {u u' : PV} (h : SvR M m u) (h1 : u'.opn = u.opn) (h2 : u'.qu = u.qu) (h3 : u'.out = u.out) (h4 : u'.bs = u.bs) : SvR M m u' :=
  ⟨h1 ▸ h.opn, h.qu, h2 ▸ h.qv, h.qb, h3 ▸ h.out, h4 ▸ h.bs, h.qc, h3 ▸ h.oc, h4 ▸ h.bc⟩
theorem SvR.ins {M : Heap} {m : SvV} {u : PV} (h : SvR M m u) {l : Bs} {a4 : Option Addr} {c4 : Nat} (hr : RdM encY M a4 l) (hc : l.length ≤ c4) : SvR M { m with a4 := a4, c4 := c4 } { u with bs := l } :=
  ⟨h.opn, h.qu, h.qv, h.qb, h.out, hr, h.qc, h.oc, hc⟩
theorem PVJ.re {u u' : PV} (h : PVJ u) (h1 : u'.opn = u.opn) (h2 : u'.qu = u.qu) (h3 : u'.last = u.last) : PVJ u' := ⟨h1 ▸ h.opn, h1 ▸ h.nd, h1 ▸ h3 ▸ h.le, h1 ▸ h2 ▸ h.qo, h3 ▸ h.last⟩
theorem PVI.re {n : Nat} {u u' : PV} (h : PVI n u) (h1 : u'.opn = u.opn) (h2 : u'.qu = u.qu) (h3 : u'.last = u.last) (h4 : u'.out = u.out) : PVI n u' := ⟨h1 ▸ h.opn, h2 ▸ h.qu, h3 ▸ h.last, h4 ▸ h.out, h1 ▸ h.ids⟩
end Go.Proofs.YtdelhikejgoffaaGreat
end
section
set_option linter.unusedVariables false
set_option maxRecDepth 20000
set_option maxHeartbeats 1000000
namespace Go.Proofs.YtdelhikejgoffaaGreat
/-- A call of the laws, and where its data lies. -/
structure Ac where
  what : Int
  id : Int
  n : Int
  t : Nat
  oa : Option Addr
  c : Nat
  data : Bs
abbrev encAc (m : Ac) : List Value := [.int .i64 m.what, .int .i64 m.id, .int .i64 m.n, .int .u64 (m.t : Int), .slice m.oa m.data.length m.c]
def LstM (M : Heap) (ol : Option Addr) (l : List Ac) : Prop := 0 < l.length → ∃ b k cs e fr, ol = some ⟨b, k, none⟩ ∧ (⟨some b, .cells (List.toArray cs) e fr⟩ : Ent) ∈ M ∧ ∀ (i : Nat) (m : Ac), l[i]? = some m → At cs (k + i * 5) (encAc m)
theorem LstM.up {M : Heap} {ol : Option Addr} {l : List Ac} (h : LstM M ol l) (N : Heap) : LstM (N ++ M) ol l := fun hl => by
  obtain ⟨b, k, cs, e, fr, h1, h2, h3⟩ := h hl
  exact ⟨b, k, cs, e, fr, h1, List.mem_append_right _ h2, h3⟩
theorem take_same {a b : List Int} {k : Nat} {x : Int} (h : a.take k = b.take k) (h1 : a[k]? = some x) (h2 : b[k]? = some x) : a.take (k + 1) = b.take (k + 1) := by rw [take_next h1, take_next h2, h]
theorem wdiff {a b : List Int} {k : Nat} {x y : Int} (h1 : a[k]? = some x) (h2 : b[k]? = some y) (h : x ≠ y) : a ≠ b := fun e => by rw [e, h2] at h1; exact h (Option.some.inj h1).symm
end Go.Proofs.YtdelhikejgoffaaGreat
end
section
set_option linter.unusedVariables false
set_option maxRecDepth 20000
set_option maxHeartbeats 4000000
namespace Go.Proofs.YtdelhikejgoffaaGreat
theorem few_ok (DH : Heap) (l : List Ac) (hl : l.length ≤ 9223372036854775807) {ol : Option Addr} {cl9 : Nat} (hlst : LstM DH ol l) : Spec Tryz.prog 5 [.slice ol l.length cl9, .int .i64 40] DH (fun r H' => ∃ b, r = .bool b ∧ (b = true → l.length ≤ 40 ∧ ∀ m ∈ l, m.data.length ≤ 1100) ∧ DH = H') := by
  refine Spec.of (E := [(0, .slice ol l.length cl9), (1, .int .i64 40)]) Tryz.func5 rfl (by kernel_rfl) Tryz.ntmps5 rfl rfl (fun w => ?_)
  refine WC_seq ?_
  refine WC_region ?_
  refine WL_val rfl rfl rfl (R_assign rfl rfl) ?_
  refine WL_nil ?_
  refine WQ_code ?_
  refine WC_seq ?_
  refine WC_seq ?_
  refine WC_region ?_
  refine WL_val rfl rfl rfl (R_assign rfl rfl) ?_
  refine WL_nil ?_
  refine WQ_code ?_
  refine WC_block ?_
  refine WC_loopF (G := Nat) [4, 5, 6, 7, 8, 9, 10, 11, 12, 13, 14, 15, 16, 17, 18, 19, 20, 21, 22, 23] (fun y => y ≤ l.length ∧ y ≤ 40 ∧ ∀ m ∈ l.take y, m.data.length ≤ 1100) (fun y => [(5, .int .i64 (y : Int))]) (fun y => []) (fun y => l.length - y) (0) (⟨Nat.zero_le _, Nat.zero_le _, fun m hm => by cases hm⟩) leZ (pqD) ?_
  rintro y ⟨hy, hy40, hall⟩
  refine WC_seq ?_
  refine WC_seq ?_
  refine WC_region ?_
  refine WL_val rfl rfl rfl (R_move rfl rfl) ?_
  refine WL_val rfl rfl rfl (R_move rfl rfl) ?_
  refine WL_val rfl rfl rfl (R_len rfl Tryz.underlying22 rfl) ?_
  refine WL_val rfl rfl rfl (R_lss rfl rfl rfl) ?_
  refine WL_val rfl rfl rfl (R_move rfl rfl) ?_
  refine WL_splitD (s := 10) rfl (fun c1 => ?_) (fun c1 => ?_)
  · have hq := c1
    refine WL_val rfl rfl rfl (R_move rfl rfl) ?_
    refine WL_val rfl rfl rfl (R_move rfl rfl) ?_
    refine WL_val rfl rfl rfl (R_lss rfl rfl rfl) ?_
    refine WL_val rfl rfl rfl (R_pickT rfl rfl rfl) ?_
    refine WL_nil ?_
    refine WQ_code ?_
    refine WC_dec rfl (fun c2 => ?_) (fun c2 => ?_)
    · have hy4 : y < 40 := by omega
      refine WC_skip ?_
      refine WQ_code ?_
      refine WC_seq ?_
      refine WC_block ?_
      refine WC_seq ?_
      refine WC_region ?_
      refine WL_val rfl rfl rfl (R_move rfl rfl) ?_
      refine WL_val rfl rfl rfl (R_move rfl rfl) ?_
      obtain ⟨mv, hmv⟩ := getE (T := l) (i := y) (by omega)
      obtain ⟨lb, lk, lcs, le, lfr, rfl, hlm, hlat⟩ := hlst (by omega)
      refine WL_val rfl rfl rfl (R_indexAddr rfl Tryz.underlying22 Tryz.sizeOf43 rfl rfl (by omega)) ?_
      refine WL_val rfl rfl rfl (R_fieldAddr rfl fa43_4 rfl) ?_
      refine WL_val rfl rfl rfl (R_loadG (v := .slice mv.oa mv.data.length mv.c) rfl sc26 rfl (pulls_mem (pqD : Pulls DH _ _) hlm) (hlat y mv hmv 4 _ rfl)) ?_
      refine WL_val rfl rfl rfl (R_len rfl Tryz.underlying26 rfl) ?_
      refine WL_val rfl rfl rfl (R_gtr rfl rfl rfl) ?_
      refine WL_nil ?_
      refine WQ_code ?_
      refine WC_dec rfl (fun c3 => ?_) (fun c3 => ?_)
      · refine WC_seq ?_
        refine WC_region ?_
        refine WL_val rfl rfl rfl (R_assign rfl rfl) ?_
        refine WL_nil ?_
        refine WQ_code ?_
        refine WC_ret ?_
        refine WQ_ret rfl rfl (.cons (.tmp rfl) .nil) rfl (by
            exact ⟨_, rfl, (fun e => by cases e), rfl⟩) (pqD)
      · refine WC_skip ?_
        refine WQ_code ?_
        refine WC_region ?_
        refine WL_val rfl rfl rfl (R_move rfl rfl) ?_
        refine WL_val rfl rfl rfl (R_add rfl rfl rfl (by omega)) ?_
        refine WL_val rfl rfl rfl (R_assign rfl rfl) ?_
        refine WL_nil ?_
        refine WQ_nextF (y + 1) (⟨by omega, by omega, fun m hm => by rw [take_next hmv] at hm; rcases List.mem_append.1 hm with h9 | h9; exact hall m h9; rw [List.mem_singleton.1 h9]; omega⟩) (by omega) leZ (psZ) rfl (pqD)
    · refine WC_exit ?_
      refine WQ_code ?_
      refine WC_seq ?_
      refine WC_region ?_
      refine WL_val rfl rfl rfl (R_move rfl rfl) ?_
      refine WL_val rfl rfl rfl (R_len rfl Tryz.underlying22 rfl) ?_
      refine WL_val rfl rfl rfl (R_move rfl rfl) ?_
      refine WL_val rfl rfl rfl (R_leq rfl rfl rfl) ?_
      refine WL_val rfl rfl rfl (R_assign rfl rfl) ?_
      refine WL_nil ?_
      refine WQ_code ?_
      refine WC_ret ?_
      refine WQ_ret rfl rfl (.cons (.tmp rfl) .nil) rfl (by
          refine ⟨_, rfl, fun e => ?_, rfl⟩
          have h9 := of_decide_eq_true e
          have hyl : y = l.length := by omega
          exact ⟨by omega, fun m hm => hall m (by rw [hyl, List.take_length]; exact hm)⟩) (pqD)
  · have hq := c1
    refine WL_skip rfl rfl rfl ?_
    refine WL_skip rfl rfl rfl ?_
    refine WL_skip rfl rfl rfl ?_
    refine WL_val rfl rfl rfl (R_pickF rfl rfl rfl) ?_
    refine WL_nil ?_
    refine WQ_code ?_
    refine WC_F rfl ?_
    refine WC_exit ?_
    refine WQ_code ?_
    refine WC_seq ?_
    refine WC_region ?_
    refine WL_val rfl rfl rfl (R_move rfl rfl) ?_
    refine WL_val rfl rfl rfl (R_len rfl Tryz.underlying22 rfl) ?_
    refine WL_val rfl rfl rfl (R_move rfl rfl) ?_
    refine WL_val rfl rfl rfl (R_leq rfl rfl rfl) ?_
    refine WL_val rfl rfl rfl (R_assign rfl rfl) ?_
    refine WL_nil ?_
    refine WQ_code ?_
    refine WC_ret ?_
    refine WQ_ret rfl rfl (.cons (.tmp rfl) .nil) rfl (by
        refine ⟨_, rfl, fun e => ?_, rfl⟩
        have h9 := of_decide_eq_true e
        have hyl : y = l.length := by omega
        exact ⟨by omega, fun m hm => hall m (by rw [hyl, List.take_length]; exact hm)⟩) (pqD)
theorem ints_ok {M : Heap} {a b : List Int} {oa ob : Option Addr} {ca cb : Nat} (h1 : RdM encI M oa a) (h2 : RdM encI M ob b) (hl : a.length ≤ 1000000) (hl2 : b.length ≤ 1000000) : Spec Tryz.prog 8 [.slice oa a.length ca, .slice ob b.length cb] M (fun r H' => r = .bool (decide (a = b)) ∧ M = H') := by
  refine Spec.of (E := [(0, .slice oa a.length ca), (1, .slice ob b.length cb)]) Tryz.func8 rfl (by kernel_rfl) Tryz.ntmps8 rfl rfl (fun w => ?_)
  refine WC_seq ?_
  refine WC_region ?_
  refine WL_val rfl rfl rfl (R_assign rfl rfl) ?_
  refine WL_nil ?_
  refine WQ_code ?_
  refine WC_seq ?_
  refine WC_seq ?_
  refine WC_region ?_
  refine WL_val rfl rfl rfl (R_move rfl rfl) ?_
  refine WL_val rfl rfl rfl (R_len rfl Tryz.underlying32 rfl) ?_
  refine WL_val rfl rfl rfl (R_move rfl rfl) ?_
  refine WL_val rfl rfl rfl (R_len rfl Tryz.underlying32 rfl) ?_
  refine WL_val rfl rfl rfl (R_neq rfl rfl rfl) ?_
  refine WL_nil ?_
  refine WQ_code ?_
  refine WC_dec rfl (fun c1 => ?_) (fun c1 => ?_)
  · have hne : a ≠ b := fun e => c1 (by rw [e])
    refine WC_seq ?_
    refine WC_region ?_
    refine WL_val rfl rfl rfl (R_assign rfl rfl) ?_
    refine WL_nil ?_
    refine WQ_code ?_
    refine WC_ret ?_
    refine WQ_ret rfl rfl (.cons (.tmp rfl) .nil) rfl (by
        first | exact ⟨congrArg Value.bool (decide_eq_false hne).symm, rfl⟩ | exact ⟨congrArg Value.bool (decide_eq_true hE).symm, rfl⟩) (pqD)
  · have hab : a.length = b.length := by omega
    refine WC_skip ?_
    refine WQ_code ?_
    refine WC_seq ?_
    refine WC_seq ?_
    refine WC_region ?_
    refine WL_val rfl rfl rfl (R_assign rfl rfl) ?_
    refine WL_nil ?_
    refine WQ_code ?_
    refine WC_block ?_
    refine WC_loopF (G := Nat) [4, 5, 11, 12, 13, 14, 15, 16, 17, 18, 19, 20, 21, 22, 23, 24, 25] (fun y => y ≤ a.length ∧ a.take y = b.take y) (fun y => [(5, .int .i64 (y : Int))]) (fun y => []) (fun y => a.length - y) (0) (⟨Nat.zero_le _, rfl⟩) leZ (pqD) ?_
    rintro y ⟨hy, hsame⟩
    refine WC_seq ?_
    refine WC_seq ?_
    refine WC_region ?_
    refine WL_val rfl rfl rfl (R_move rfl rfl) ?_
    refine WL_val rfl rfl rfl (R_move rfl rfl) ?_
    refine WL_val rfl rfl rfl (R_len rfl Tryz.underlying32 rfl) ?_
    refine WL_val rfl rfl rfl (R_lss rfl rfl rfl) ?_
    refine WL_nil ?_
    refine WQ_code ?_
    refine WC_dec rfl (fun c2 => ?_) (fun c2 => ?_)
    · refine WC_skip ?_
      refine WQ_code ?_
      refine WC_seq ?_
      refine WC_block ?_
      refine WC_seq ?_
      refine WC_draw _ [(0, true), (1, true), (2, true), (3, true), (4, true), (5, true), (6, true), (7, true), (8, true)] followsMixed rfl rfl (by kernel_rfl) .all ?_
      obtain ⟨x, hx⟩ := getE (T := a) (i := y) (by omega)
      obtain ⟨z, hz⟩ := getE (T := b) (i := y) (by omega)
      obtain ⟨ent, hm, hr9⟩ := h1
      obtain ⟨rb, rk, rcs, re, rfr, rfl, rfl, hat⟩ := hr9 (by omega)
      obtain ⟨ent2, hm2, hr92⟩ := h2
      obtain ⟨rb2, rk2, rcs2, re2, rfr2, rfl, rfl, hat2⟩ := hr92 (by omega)
      refine WM_val rfl rfl rfl rfl (R_move rfl rfl) ?_
      refine WM_val rfl rfl rfl rfl (R_move rfl rfl) ?_
      refine WM_val rfl rfl rfl rfl (R_indexAddr rfl Tryz.underlying32 Tryz.sizeOf3 rfl rfl (by omega)) ?_
      refine WM_val rfl rfl rfl rfl (R_loadG (v := .int .i64 x) rfl sc3 rfl (pulls_mem (pqD : Pulls M _ _) hm) (At.fm hat encI1 hx 0 _ rfl)) ?_
      refine WM_val rfl rfl rfl rfl (R_move rfl rfl) ?_
      refine WM_val rfl rfl rfl rfl (R_move rfl rfl) ?_
      refine WM_val rfl rfl rfl rfl (R_indexAddr rfl Tryz.underlying32 Tryz.sizeOf3 rfl rfl (by omega)) ?_
      refine WM_val rfl rfl rfl rfl (R_loadG (v := .int .i64 z) rfl sc3 rfl (pulls_mem (pqD : Pulls M _ _) hm2) (At.fm hat2 encI1 hz 0 _ rfl)) ?_
      refine WM_val rfl rfl rfl rfl (R_neq rfl rfl rfl) ?_
      refine WM_nil ?_
      refine WQ_code ?_
      refine WC_dec rfl (fun c3 => ?_) (fun c3 => ?_)
      · have hne : a ≠ b := wdiff hx hz c3
        refine WC_seq ?_
        refine WC_region ?_
        refine WL_val rfl rfl rfl (R_assign rfl rfl) ?_
        refine WL_nil ?_
        refine WQ_code ?_
        refine WC_ret ?_
        refine WQ_ret rfl rfl (.cons (.tmp rfl) .nil) rfl (by
            first | exact ⟨congrArg Value.bool (decide_eq_false hne).symm, rfl⟩ | exact ⟨congrArg Value.bool (decide_eq_true hE).symm, rfl⟩) (pqD)
      · have hxz : x = z := Decidable.byContradiction c3
        refine WC_skip ?_
        refine WQ_code ?_
        refine WC_region ?_
        refine WL_val rfl rfl rfl (R_move rfl rfl) ?_
        refine WL_val rfl rfl rfl (R_add rfl rfl rfl (by omega)) ?_
        refine WL_val rfl rfl rfl (R_assign rfl rfl) ?_
        refine WL_nil ?_
        refine WQ_nextF (y + 1) (⟨by omega, take_same hsame hx (hxz ▸ hz)⟩) (by omega) leZ (psZ) rfl (pqD)
    · have hya : y = a.length := by omega
      have hE : a = b := by rw [hya, List.take_length, hab, List.take_length] at hsame; exact hsame
      refine WC_exit ?_
      refine WQ_code ?_
      refine WC_seq ?_
      refine WC_region ?_
      refine WL_val rfl rfl rfl (R_assign rfl rfl) ?_
      refine WL_nil ?_
      refine WQ_code ?_
      refine WC_ret ?_
      refine WQ_ret rfl rfl (.cons (.tmp rfl) .nil) rfl (by
          first | exact ⟨congrArg Value.bool (decide_eq_false hne).symm, rfl⟩ | exact ⟨congrArg Value.bool (decide_eq_true hE).symm, rfl⟩) (pqD)
theorem taken_bad {M : Heap} {out : Bs} {oa : Option Addr} {c : Nat} (n : Int) (hn : n < 0 ∨ 65536 < n) : Spec Tryz.prog 26 [.slice oa out.length c, .int .i64 n, .slice none 0 0, .int .i64 2] M (fun r H' => r = .tuple #[.slice oa out.length c, .bool true] ∧ M = H') := by
  refine Spec.of (E := [(0, .slice oa out.length c), (1, .int .i64 n), (2, .slice none 0 0), (3, .int .i64 2)]) Tryz.func26 rfl (by kernel_rfl) Tryz.ntmps26 rfl rfl (fun w => ?_)
  refine WC_seq ?_
  refine WC_region ?_
  refine WL_val rfl rfl rfl (R_assign rfl rfl) ?_
  refine WL_val rfl rfl rfl (R_assign rfl rfl) ?_
  refine WL_nil ?_
  refine WQ_code ?_
  refine WC_seq ?_
  refine WC_seq ?_
  refine WC_region ?_
  refine WL_val rfl rfl rfl (R_move rfl rfl) ?_
  refine WL_val rfl rfl rfl (R_lss rfl rfl rfl) ?_
  refine WL_val rfl rfl rfl (R_move rfl rfl) ?_
  refine WL_splitD (s := 13) rfl (fun c1 => ?_) (fun c1 => ?_)
  · have hq := c1
    refine WL_skip rfl rfl rfl ?_
    refine WL_skip rfl rfl rfl ?_
    refine WL_val rfl rfl rfl (R_pickT rfl rfl rfl) ?_
    refine WL_nil ?_
    refine WQ_code ?_
    refine WC_T rfl ?_
    refine WC_seq ?_
    refine WC_region ?_
    refine WL_val rfl rfl rfl (R_move rfl rfl) ?_
    refine WL_val rfl rfl rfl (R_move rfl rfl) ?_
    refine WL_val rfl rfl rfl (R_len rfl Tryz.underlying26 rfl) ?_
    refine WL_val rfl rfl rfl (R_eql rfl rfl rfl) ?_
    refine WL_set (s := 20) (v := .bool true) rfl (by rfl) ?_
    refine WL_val rfl rfl rfl (R_move rfl rfl) ?_
    refine WL_val rfl rfl rfl (R_move rfl rfl) ?_
    refine WL_val rfl rfl rfl (R_eql rfl rfl rfl) ?_
    refine WL_set (s := 23) (v := .bool true) rfl (by rfl) ?_
    refine WL_val rfl rfl rfl (R_pickT rfl rfl rfl) ?_
    refine WL_val rfl rfl rfl (R_assign rfl rfl) ?_
    refine WL_val rfl rfl rfl (R_assign rfl rfl) ?_
    refine WL_nil ?_
    refine WQ_code ?_
    refine WC_ret ?_
    refine WQ_ret rfl rfl (.cons (.tmp rfl) (.cons (.tmp rfl) .nil)) rfl (by
        exact ⟨rfl, rfl⟩) (pqD)
  · have hq := c1
    refine WL_val rfl rfl rfl (R_move rfl rfl) ?_
    refine WL_val rfl rfl rfl (R_gtr rfl rfl rfl) ?_
    refine WL_val rfl rfl rfl (R_pickF rfl rfl rfl) ?_
    refine WL_nil ?_
    refine WQ_code ?_
    refine WC_dT rfl (by omega) ?_
    refine WC_seq ?_
    refine WC_region ?_
    refine WL_val rfl rfl rfl (R_move rfl rfl) ?_
    refine WL_val rfl rfl rfl (R_move rfl rfl) ?_
    refine WL_val rfl rfl rfl (R_len rfl Tryz.underlying26 rfl) ?_
    refine WL_val rfl rfl rfl (R_eql rfl rfl rfl) ?_
    refine WL_set (s := 20) (v := .bool true) rfl (by rfl) ?_
    refine WL_val rfl rfl rfl (R_move rfl rfl) ?_
    refine WL_val rfl rfl rfl (R_move rfl rfl) ?_
    refine WL_val rfl rfl rfl (R_eql rfl rfl rfl) ?_
    refine WL_set (s := 23) (v := .bool true) rfl (by rfl) ?_
    refine WL_val rfl rfl rfl (R_pickT rfl rfl rfl) ?_
    refine WL_val rfl rfl rfl (R_assign rfl rfl) ?_
    refine WL_val rfl rfl rfl (R_assign rfl rfl) ?_
    refine WL_nil ?_
    refine WQ_code ?_
    refine WC_ret ?_
    refine WQ_ret rfl rfl (.cons (.tmp rfl) (.cons (.tmp rfl) .nil)) rfl (by
        exact ⟨rfl, rfl⟩) (pqD)
theorem taken_ok {M : Heap} {out : Bs} {oa : Option Addr} {c : Nat} (hr : RdM encY M oa out) (hc : out.length ≤ c) (hl : out.length ≤ 1000000) (k : Nat) (hk : k ≤ 65536) {ob : Option Addr} {cb : Nat} (hb : RdM encY M ob (out.take k)) : Spec Tryz.prog 26 [.slice oa out.length c, .int .i64 (k : Int), .slice ob (out.take k).length cb, .int .i64 0] M (fun r H' => ∃ oa' c', r = .tuple #[.slice oa' (out.drop k).length c', .bool true] ∧ RdM encY M oa' (out.drop k) ∧ (out.drop k).length ≤ c' ∧ M = H') := by
  obtain ⟨mn, ⟨hmn, hml⟩, hmT, hmD⟩ := take_min out k
  rw [hmT] at hb ⊢
  rw [hmD]
  refine Spec.of (E := [(0, .slice oa out.length c), (1, .int .i64 (k : Int)), (2, .slice ob (out.take mn).length cb), (3, .int .i64 0)]) Tryz.func26 rfl (by kernel_rfl) Tryz.ntmps26 rfl rfl (fun w => ?_)
  refine WC_seq ?_
  refine WC_region ?_
  refine WL_val rfl rfl rfl (R_assign rfl rfl) ?_
  refine WL_val rfl rfl rfl (R_assign rfl rfl) ?_
  refine WL_nil ?_
  refine WQ_code ?_
  refine WC_seq ?_
  refine WC_seq ?_
  refine WC_region ?_
  refine WL_val rfl rfl rfl (R_move rfl rfl) ?_
  refine WL_val rfl rfl rfl (R_lss rfl rfl rfl) ?_
  refine WL_val rfl rfl rfl (R_move rfl rfl) ?_
  refine WL_set (s := 13) (v := .bool false) rfl (by exact congrArg Value.bool (decide_eq_false (by omega))) ?_
  refine WL_val rfl rfl rfl (R_move rfl rfl) ?_
  refine WL_val rfl rfl rfl (R_gtr rfl rfl rfl) ?_
  refine WL_val rfl rfl rfl (R_pickF rfl rfl rfl) ?_
  refine WL_nil ?_
  refine WQ_code ?_
  refine WC_dF rfl (by omega) ?_
  refine WC_skip ?_
  refine WQ_code ?_
  refine WC_seq ?_
  refine WC_region ?_
  refine WL_val rfl rfl rfl (R_move rfl rfl) ?_
  refine WL_val rfl rfl rfl (R_move rfl rfl) ?_
  refine WL_val rfl rfl rfl (R_len rfl Tryz.underlying26 rfl) ?_
  refine WL_val rfl rfl rfl (R_minR (r := (mn : Int)) rfl rfl rfl hmn) ?_
  refine WL_val rfl rfl rfl (R_assign rfl rfl) ?_
  refine WL_nil ?_
  refine WQ_code ?_
  refine WC_seq ?_
  refine WC_draw _ [(0, true), (1, true), (2, true), (3, true), (4, true), (5, true), (6, true), (7, true), (8, true), (9, true), (10, true), (11, true), (12, true), (13, true), (14, true), (15, true)] followsMixed rfl rfl (by kernel_rfl) .all ?_
  obtain ⟨ent, hm, hrb⟩ := hr.b
  obtain ⟨ent2, hm2, hrb2⟩ := hb.b
  have htl : (out.take mn).length = mn := by simp; omega
  refine WM_val rfl rfl rfl rfl (R_move rfl rfl) ?_
  refine WM_val rfl rfl rfl rfl (R_move rfl rfl) ?_
  refine WM_val rfl rfl rfl rfl (R_sliceFromG (m := mn) rfl Tryz.underlying26 Tryz.sizeOf5 rfl rfl (by omega)) ?_
  refine WM_val rfl rfl rfl rfl (R_move rfl rfl) ?_
  refine WM_val rfl rfl rfl rfl (R_byteStr rfl Tryz.underlying26 Tryz.underlying5 Tryz.underlying9 rfl hrb2 (pulls_mem (pqD : Pulls M _ _) hm2)) ?_
  refine WM_val rfl rfl rfl rfl (R_move rfl rfl) ?_
  refine WM_val rfl rfl rfl rfl (R_move rfl rfl) ?_
  refine WM_val rfl rfl rfl rfl (R_sliceTo (m := mn) rfl Tryz.underlying26 Tryz.sizeOf5 rfl rfl (by omega)) ?_
  refine WM_set (s := 36) (v := .slice oa (out.take mn).length c) rfl (by rw [htl]) ?_
  refine WM_val rfl rfl rfl rfl (R_byteStr rfl Tryz.underlying26 Tryz.underlying5 Tryz.underlying9 rfl (hrb.take mn) (pulls_mem (pqD : Pulls M _ _) hm)) ?_
  refine WM_val rfl rfl rfl rfl (R_strEq rfl Tryz.underlying9 rfl rfl) ?_
  refine WM_set (s := 38) (v := .bool true) rfl (by exact congrArg Value.bool (decide_eq_true rfl)) ?_
  refine WM_val rfl rfl rfl rfl (R_move rfl rfl) ?_
  refine WM_val rfl rfl rfl rfl (R_move rfl rfl) ?_
  refine WM_val rfl rfl rfl rfl (R_eql rfl rfl rfl) ?_
  refine WM_set (s := 41) (v := .bool true) rfl (by rfl) ?_
  refine WM_val rfl rfl rfl rfl (R_pickT rfl rfl rfl) ?_
  refine WM_val rfl rfl rfl rfl (R_assign rfl rfl) ?_
  refine WM_val rfl rfl rfl rfl (R_assign rfl rfl) ?_
  refine WM_nil ?_
  refine WQ_code ?_
  refine WC_ret ?_
  refine WQ_ret rfl rfl (.cons (.tmp rfl) (.cons (.tmp rfl) .nil)) rfl (by
      exact ⟨dropA oa c mn 1, c - mn, by rw [List.length_drop]; rfl, hr.dropG encY1 hc mn, by rw [List.length_drop]; omega, rfl⟩) (pqD)
end Go.Proofs.YtdelhikejgoffaaGreat
end
section
set_option linter.unusedVariables false
set_option maxRecDepth 20000
set_option maxHeartbeats 1000000
namespace Go.Proofs.YtdelhikejgoffaaGreat
def xorB (v : UInt8) : UInt8 := UInt8.ofNat (BitVec.ofInt 8 255 ^^^ BitVec.ofInt 8 (v.toNat : Int)).toNat
theorem R_xor8 {X : Ctx} {E : Env} {H : Heap} {o : Oper} {t : TypeId} {x : Operand} {v : UInt8} (ho : o.op = .unOp .xor t x) (h : ev E x = some (.int .u8 (v.toNat : Int))) : Runs X o E H (.int .u8 ((xorB v).toNat : Int)) :=
  ⟨(by rw [ho]; intro c e; cases e), fun a w ha _ => by
    have hx : (IntKind.u8.wrap ((BitVec.ofInt 8 255 ^^^ BitVec.ofInt 8 (v.toNat : Int)).toNat : Int)) = ((xorB v).toNat : Int) := u8_of _
    simp only [execOp, ho, ha.eval h, Op.unary, Op.intBits]
    first | (rw [← hx]; rfl) | (simp [IntKind.bits, IntKind.signed, IntKind.max, ← hx])⟩
structure LwB (B : Nat) (u : PV) (n : Nat) : Prop where
  J : PVJ u
  o : u.out.length + n ≤ B
  q : u.qu.length + n ≤ B
  qb : ∀ r ∈ u.qu, r.body.length ≤ 1024
theorem LwB.mono {B n m : Nat} {u : PV} (h : LwB B u n) (hm : m ≤ n) : LwB B u m := ⟨h.J, by have := h.o; omega, by have := h.q; omega, h.qb⟩
theorem LwB.close {B n : Nat} {u : PV} (h : LwB B u n) (id : Int) : LwB B (u.close id) n := by
  refine ⟨h.J.close id, ?_, ?_, fun r hr => ?_⟩ <;> rw [h.J.wo] at *
  · exact h.o
  · have h1 : (u.qu.filter (notId id)).length ≤ u.qu.length := List.length_filter_le ..
    have := h.q
    show (u.qu.filter (notId id)).length + n ≤ B
    omega
  · exact h.qb r (List.mem_filter.1 hr).1
theorem LwB.step {B n : Nat} {u : PV} {k : UInt8} {body : Bs} (h : LwB B u (n + (body.length + 6))) (hb : body.length ≤ 1024) : LwB B (u.step k body).1 n := by
  have hJ := h.J.step k body
  have ho := h.o
  have hq := h.q
  have hm := h.mono (m := n) (by omega)
  unfold PV.step at hJ ⊢
  split
  · rename_i h1
    split
    · exact hm
    · rename_i h3
      rw [if_pos h1, if_neg h3] at hJ
      split
      · rename_i h4
        rw [if_pos h4] at hJ
        refine ⟨hJ, ?_, hm.q, h.qb⟩
        show (u.out ++ _).length + n ≤ B
        rw [List.length_append, encF_len, List.length_append, bigB_len]
        have := h1.2
        simp only [List.length_cons, List.length_nil]
        omega
      · rename_i h4
        rw [if_neg h4] at hJ
        refine ⟨hJ, hm.o, ?_, fun r hr => ?_⟩
        · show (u.qu ++ _).length + n ≤ B
          simp; omega
        · rcases List.mem_append.1 hr with h5 | h5
          · exact h.qb r h5
          · rw [List.mem_singleton.1 h5]; show (body.drop 12).length ≤ _; simp; omega
  · split
    · split
      · exact hm
      · exact hm.close _
    · exact hm
theorem LwB.rcv {B : Nat} : ∀ (n : Nat) (q : PV) (bs : Bs), LwB B q bs.length → LwB B (rcvN PV.step n q bs).1 (rcvN PV.step n q bs).2.1.length ∧ ((rcvN PV.step n q bs).2.2.2 = 0 → (rcvN PV.step n q bs).2.2.1 = 0)
  | 0, q, bs, h => ⟨h, fun _ => rfl⟩
  | n + 1, q, bs, h => by
    cases hN : nxt bs with
    | wait => rw [rcv_wait hN]; exact ⟨h, fun _ => rfl⟩
    | bad e => rw [rcv_bad hN]; exact ⟨h, fun e => e⟩
    | got k body m =>
      obtain ⟨h1, h2, h3⟩ := nxt_got hN
      have h5 : LwB B q ((bs.drop m).length + (body.length + 6)) := by rw [show (bs.drop m).length + (body.length + 6) = bs.length from by simp; omega]; exact h
      by_cases h4 : body.length < 4
      · rw [rcv_short hN h4]; exact ⟨h5.mono (by dsimp only; omega), fun _ => rfl⟩
      · by_cases h6 : (q.step k body).2 = 0
        · rw [rcv_ok hN (by omega) h6]; exact LwB.rcv n _ _ (h5.step h3)
        · rw [rcv_no hN (by omega) h6]; exact ⟨h5.step h3, fun _ => rfl⟩
structure LwI (i : Nat) (u : PV) : Prop where
  b : LwB (1100 * i) u u.bs.length
  rb : u.br = 0 → u.rb = 0
theorem LwB.up {B C n : Nat} {u : PV} (h : LwB B u n) (hB : B ≤ C) : LwB C u n := ⟨h.J, by have := h.o; omega, by have := h.q; omega, h.qb⟩
theorem LwB.re {B n : Nat} {u u' : PV} (h : LwB B u n) (h1 : u'.opn = u.opn) (h2 : u'.qu = u.qu) (h3 : u'.last = u.last) (h4 : u'.out = u.out) : LwB B u' n := ⟨h.J.re h1 h2 h3, h4 ▸ h.o, h2 ▸ h.q, h2 ▸ h.qb⟩
theorem LwI.up {i : Nat} {u : PV} (h : LwI i u) : LwI (i + 1) u := ⟨h.b.up (by omega), h.rb⟩
theorem LwI.recv {i : Nat} {u : PV} (h : LwI i u) (hi : i ≤ 40) {l : Bs} (hl : l.length ≤ 1100) : LwI (i + 1) (u.recv l).1 := by
  have h1 := h.b.o
  unfold PV.recv
  split
  · exact h.up
  · split
    · exact h.up
    · have h2 := LwB.rcv (B := 1100 * (i + 1)) (u.bs.length + l.length + 1) { u with bs := [] } (u.bs ++ l) ⟨h.b.J.re rfl rfl rfl, by rw [List.length_append]; have := h.b.o; show u.out.length + _ ≤ _; omega, by rw [List.length_append]; have := h.b.q; show u.qu.length + _ ≤ _; omega, h.b.qb⟩
      exact ⟨h2.1.re rfl rfl rfl rfl, fun e => h2.2 e⟩
theorem LwI.reply {i : Nat} {u : PV} (h : LwI i u) (id code : Int) (l : Bs) : LwI (i + 1) (u.reply id code l).1 := by
  unfold PV.reply
  (repeat' split) <;> try exact h.up
  rename_i h1 h2 h3 h4 h5
  have h6 := h.b.close id
  have hc := close_br u id
  have ho : (u.close id).out = u.out := by rw [h.b.J.wo]
  have hrb : (u.close id).rb = u.rb := by rw [h.b.J.wo]
  refine ⟨⟨h6.J.re rfl rfl rfl, ?_, ?_, h6.qb⟩, fun e => ?_⟩
  · show (u.out ++ _).length + (u.close id).bs.length ≤ _
    rw [List.length_append, encF_len, List.length_append, List.length_append, bigB_len, bigB_len, hc.2]
    have := h.b.o
    omega
  · show (u.close id).qu.length + (u.close id).bs.length ≤ _
    have := h6.q
    rw [hc.2]
    omega
  · show (u.close id).rb = 0
    rw [hrb]
    exact h.rb (hc.1 ▸ e)
end Go.Proofs.YtdelhikejgoffaaGreat
end
