/-
  Chapter 45 (rpc), part LwN: contracts of functions that the laws call, each for the heap it names.
-/
import Derived.Test.YtdelhikejgoffaaY03
import Derived.Test.YtdelhikejgoffaaRows
import Derived.Shelf.SlSortCmp.Whole1
import Derived.Shelf.SlSortCmp.NoneTotal
section
set_option linter.unusedVariables false
set_option maxRecDepth 20000
set_option maxHeartbeats 4000000
namespace Go.Proofs.Ytdelhikejgoffaa
theorem sout_do {m : SvM} {x : Sv} (h : SvIs m x) (hb : SvB x) (n : Nat) (hn : n ≤ 65536) : Spec Try.prog 20 [ptrC m.p, .int .i64 (n : Int)] (svH m x) (fun r H' => ∃ o c2 tl2 m' x', m'.p = m.p ∧ SvIs m' x' ∧ x'.v = { x.v with out := x.v.out.drop n } ∧ r = .tuple #[slV o (x.v.out.take n).length c2, .int .i64 0] ∧ Own o (x.v.out.take n).length c2 1 (bvs (x.v.out.take n)) tl2 ∧ H' = svH m' x' ++ [⟨o, cl (bvs (x.v.out.take n) ++ tl2) 5⟩]) := by
  have hbo := hb.out
  refine Spec.of (E := [(0, ptrC m.p), (1, .int .i64 (n : Int))]) Try.func20 rfl (by kernel_rfl) Try.ntmps20 rfl rfl (fun w => ?_)
  refine WC_seq ?_
  refine WC_region ?_
  refine WL_val rfl rfl rfl (R_assign rfl rfl) ?_
  refine WL_val rfl rfl rfl (R_assign rfl rfl) ?_
  refine WL_nil ?_
  refine WQ_code ?_
  refine WC_seq ?_
  refine WC_seq ?_
  refine WC_region ?_
  refine WL_val rfl rfl rfl (R_move rfl rfl) ?_
  refine WL_val rfl rfl rfl (R_ptrEqNil rfl Try.underlying35 rfl) ?_
  refine WL_nil ?_
  refine WQ_code ?_
  refine WC_F rfl ?_
  refine WC_skip ?_
  refine WQ_code ?_
  refine WC_seq ?_
  refine WC_region ?_
  refine WL_val rfl rfl rfl (R_move rfl rfl) ?_
  refine WL_val rfl rfl rfl (R_nilCheck rfl rfl) ?_
  refine WL_val rfl rfl rfl (R_fieldAddr rfl fa39_0 rfl) ?_
  refine WL_val rfl rfl rfl (R_move rfl rfl) ?_
  refine WL_do rfl rfl rfl (D_call (take_any m.p 39 _ h.sd.oO n hn (by omega)) rfl rfl rfl rfl (pqD)) ?_
  rintro _ _ ⟨_, ⟨o9, c9, tl9, k9, c8, pre9, rfl, rfl, hO9, own9⟩, rfl⟩
  refine WL_val rfl rfl rfl (R_extract rfl rfl rfl) ?_
  refine WL_val rfl rfl rfl (R_extract rfl rfl rfl) ?_
  refine WL_val rfl rfl rfl (R_assign rfl rfl) ?_
  refine WL_val rfl rfl rfl (R_assign rfl rfl) ?_
  refine WL_nil ?_
  refine WQ_code ?_
  refine WC_ret ?_
  refine WQ_ret rfl rfl (.cons (.tmp rfl) (.cons (.tmp rfl) .nil)) rfl (by
      exact ⟨o9, c9, tl9, { m with sd := { m.sd with ok := k9, oc := c8, op := pre9 } }, { x with s := { x.s with out := x.s.out.drop n } }, rfl, ⟨⟨hO9, h.sd.iO⟩, h.cO, h.eO, h.rO⟩, rfl, rfl, own9, rfl⟩) (pqD)
theorem snext_empty {m : SvM} {x : Sv} (h : SvIs m x) (hb : SvB x) (he : x.qu = []) : Spec Try.prog 17 [ptrC m.p] (svH m x) (SPost m.p (x.v, .tuple #[.agg #[.int .i64 0, .int .u64 0, .slice none 0 0], .bool false])) := by
  refine Spec.of (E := [(0, ptrC m.p)]) Try.func17 rfl (by kernel_rfl) Try.ntmps17 rfl rfl (fun w => ?_)
  refine WC_seq ?_
  refine WC_region ?_
  refine WL_do rfl rfl rfl (D_alloc rfl zv60) ?_
  rintro _ _ ⟨b1, rfl, rfl⟩
  refine WL_val rfl rfl rfl (R_assign rfl rfl) ?_
  refine WL_nil ?_
  refine WQ_code ?_
  refine WC_seq ?_
  refine WC_seq ?_
  refine WC_region ?_
  refine WL_val rfl rfl rfl (R_move rfl rfl) ?_
  refine WL_val rfl rfl rfl (R_ptrEqNil rfl Try.underlying35 rfl) ?_
  refine WL_val rfl rfl rfl (R_move rfl rfl) ?_
  refine WL_val rfl rfl rfl (R_move rfl rfl) ?_
  refine WL_val rfl rfl rfl (R_nilCheck rfl rfl) ?_
  refine WL_val rfl rfl rfl (R_fieldAddr rfl fa39_2 rfl) ?_
  refine WL_val rfl rfl rfl (R_load rfl sc37 rfl (mmD) rfl) ?_
  refine WL_val rfl rfl rfl (R_len rfl Try.underlying37 rfl) ?_
  refine WL_val rfl rfl rfl (R_eql rfl rfl rfl) ?_
  refine WL_set (s := 12) (v := .bool true) rfl (by rw [he]; rfl) ?_
  refine WL_val rfl rfl rfl (R_pickF rfl rfl rfl) ?_
  refine WL_nil ?_
  refine WQ_code ?_
  refine WC_T rfl ?_
  refine WC_seq ?_
  refine WC_region ?_
  refine WL_val rfl rfl rfl (R_build rfl zv60 pl60 rfl rfl) ?_
  refine WL_do0 rfl rfl (D_store (vs := [_, _, _]) rfl Try.sizeOf60 rfl rfl rfl rfl rfl (plD) (by exact Nat.le_of_ble_eq_true rfl)) ?_
  rintro _ _ rfl
  refine WL_val rfl rfl rfl (R_assign rfl rfl) ?_
  refine WL_nil ?_
  refine WQ_code ?_
  refine WC_ret ?_
  refine WQ_ret rfl rfl (.cons (.cell (vs := [_, _, _]) rfl ag60 (mmD) rfl (atZ)) (.cons (.tmp rfl) .nil)) rfl (by
      exact ⟨m, x, rfl, h, rfl, rfl, rfl⟩) (pqD)
theorem OwnS.atQ {ob : Option Nat} {k n c : Nat} {pre tl : List Value} {T : List Rq} (h : OwnS ob k n c 3 pre (T.flatMap encRq) tl) {i : Nat} {x : Rq} (hx : T[i]? = some x) (hi : i < n) : At (pre ++ (T.flatMap encRq ++ tl)) (k + i * 3) (encRq x) := fun j v hj => by
  rw [h.get encRq3 hx hi (by have := (List.getElem?_eq_some_iff.1 hj).1; simpa using this)]; exact hj
theorem snext_take {m : SvM} {x : Sv} (h : SvIs m x) (hb : SvB x) (r0 : Rq) (rest : List Rq) (he : x.qu = r0 :: rest) : Spec Try.prog 17 [ptrC m.p] (svH m x) (fun r H' => ∃ m' x', m'.p = m.p ∧ SvIs m' x' ∧ x'.v = { x.v with qu := rest.map Rq.v } ∧ r = .tuple #[.agg #[.int .i64 r0.id, .int .u64 (r0.dl : Int), slV r0.o r0.body.length r0.c], .bool true] ∧ H' = svH m' x' ++ [rqE r0]) := by
  have heO := h.eO
  rw [he] at heO
  obtain ⟨wb, hwb⟩ := heO.some_of (Nat.succ_pos _)
  have hlen : x.qu.length = rest.length + 1 := by rw [he]; rfl
  refine Spec.of (E := [(0, ptrC m.p)]) Try.func17 rfl (by kernel_rfl) Try.ntmps17 rfl rfl (fun w => ?_)
  refine WC_seq ?_
  refine WC_region ?_
  refine WL_do rfl rfl rfl (D_alloc rfl zv60) ?_
  rintro _ _ ⟨b1, rfl, rfl⟩
  refine WL_val rfl rfl rfl (R_assign rfl rfl) ?_
  refine WL_nil ?_
  refine WQ_code ?_
  refine WC_seq ?_
  refine WC_seq ?_
  refine WC_region ?_
  refine WL_val rfl rfl rfl (R_move rfl rfl) ?_
  refine WL_val rfl rfl rfl (R_ptrEqNil rfl Try.underlying35 rfl) ?_
  refine WL_val rfl rfl rfl (R_move rfl rfl) ?_
  refine WL_val rfl rfl rfl (R_move rfl rfl) ?_
  refine WL_val rfl rfl rfl (R_nilCheck rfl rfl) ?_
  refine WL_val rfl rfl rfl (R_fieldAddr rfl fa39_2 rfl) ?_
  refine WL_val rfl rfl rfl (R_load rfl sc37 rfl (mmD) rfl) ?_
  refine WL_val rfl rfl rfl (R_len rfl Try.underlying37 rfl) ?_
  refine WL_val rfl rfl rfl (R_eql rfl rfl rfl) ?_
  refine WL_set (s := 12) (v := .bool false) rfl (by rw [he]; rfl) ?_
  refine WL_val rfl rfl rfl (R_pickF rfl rfl rfl) ?_
  refine WL_nil ?_
  refine WQ_code ?_
  refine WC_F rfl ?_
  refine WC_skip ?_
  refine WQ_code ?_
  refine WC_seq ?_
  refine WC_drawY [⟨some b1, _⟩, ⟨some m.p, _⟩] [(m.p, 6, sVal m.eb m.ek x.qu.length m.ec)] [15] [(0, false), (1, false), (2, false), (3, false), (4, true), (5, false), (6, false), (7, false), (8, false), (9, false), (10, true)] [(11, true), (12, false), (13, true), (14, true), (15, false)] followsMixed rfl rfl (by kernel_rfl) (pqD) (.cons (mmD) rfl .nil) ?_
  refine WYE_val rfl rfl rfl rfl (R_move rfl rfl) ?_
  refine WYE_val rfl rfl rfl rfl (R_move rfl rfl) ?_
  refine WYE_val rfl rfl rfl rfl (R_nilCheck rfl rfl) ?_
  refine WYE_val rfl rfl rfl rfl (R_fieldAddr rfl fa39_2 rfl) ?_
  refine WYE_early rfl rfl rfl rfl rfl sc37 rfl (by repeat (first | exact List.Mem.head _ | refine List.Mem.tail _ ?_)) ?_
  refine WYE_val rfl rfl rfl rfl (R_indexS (i := 0) hwb rfl Try.underlying37 Try.sizeOf60 rfl rfl (by omega)) ?_
  refine WYE_val rfl rfl rfl rfl (R_loadAO (vs := [.int .i64 r0.id, .int .u64 (r0.dl : Int), slV r0.o r0.body.length r0.c]) hwb rfl ag60 rfl (mmD) rfl (h.eO.atQ (i := 0) (x := r0) (by rw [he]; rfl) (by omega))) ?_
  refine WYE_val rfl rfl rfl rfl (R_move rfl rfl) ?_
  refine WYE_val rfl rfl rfl rfl (R_nilCheck rfl rfl) ?_
  refine WYE_val rfl rfl rfl rfl (R_fieldAddr rfl fa39_2 rfl) ?_
  refine WYE_early rfl rfl rfl rfl rfl sc37 rfl (by repeat (first | exact List.Mem.head _ | refine List.Mem.tail _ ?_)) ?_
  refine WYE_rest ?_
  refine WY_val rfl rfl rfl rfl (R_cut1 (m := rest.length) hwb rfl Try.underlying37 Try.sizeOf60 rfl rfl hlen) ?_
  refine WY_do0 rfl rfl rfl (D_store (vs := [_, _, _]) rfl Try.sizeOf60 rfl rfl rfl rfl rfl (plD) (by exact Nat.le_of_ble_eq_true rfl)) ?_
  rintro _ _ rfl
  refine ⟨⟨_, pqD⟩, .inr (.cons (mmD) rfl .nil), ?_⟩
  refine WY_val rfl rfl rfl rfl (R_nilCheck rfl rfl) ?_
  refine WY_val rfl rfl rfl rfl (R_fieldAddr rfl fa39_2 rfl) ?_
  refine WY_do0 rfl rfl rfl (D_store (vs := [_]) rfl Try.sizeOf37 rfl rfl rfl rfl rfl (plD) (by exact Nat.le_of_ble_eq_true rfl)) ?_
  rintro _ _ rfl
  refine ⟨⟨_, pqD⟩, .inl rfl, ?_⟩
  refine WY_nil ?_
  refine WQ_code ?_
  refine WC_seq ?_
  refine WC_region ?_
  refine WL_val rfl rfl rfl (R_loadA (vs := [_, _, _]) rfl ag60 rfl (mmD) rfl (atZ)) ?_
  refine WL_do0 rfl rfl (D_store (vs := [_, _, _]) rfl Try.sizeOf60 rfl rfl rfl rfl rfl (plD) (by exact Nat.le_of_ble_eq_true rfl)) ?_
  rintro _ _ rfl
  refine WL_val rfl rfl rfl (R_assign rfl rfl) ?_
  refine WL_nil ?_
  refine WQ_code ?_
  refine WC_ret ?_
  rw [show svQ m x = (⟨m.eb, cl ((m.epre ++ encRq r0) ++ (rest.flatMap encRq ++ m.etl)) 60⟩ : Ent) from by unfold svQ; rw [he]; simp, show rqH x.qu = rqE r0 :: rqH rest from by rw [he]; rfl]
  refine WQ_ret rfl rfl (.cons (.cell (vs := [_, _, _]) rfl ag60 (mmD) rfl (atZ)) (.cons (.tmp rfl) .nil)) rfl (by
      exact ⟨{ m with ek := if m.ec = 1 then m.ek else m.ek + 3, ec := m.ec - 1, epre := m.epre ++ encRq r0 }, { x with qu := rest }, rfl, ⟨h.sd, h.cO, heO.cut (ys := encRq r0) (zs := rest.flatMap encRq) (m := rest.length) rfl rfl rfl, fun r hr => h.rO r (by rw [he]; exact List.mem_cons_of_mem _ hr)⟩, rfl, rfl, rfl⟩) (pqD)
theorem iclone_ok_none {l : List Int} (hl : l.length ≤ 1000000) {o : Option Nat} {c : Nat} {tl : List Value} (own : Own o l.length c 1 (ivs l) tl) (ho : o = none) : Spec Try.prog 26 [slV o l.length c] [⟨o, cl (ivs l ++ tl) 3⟩] (fun r H' => r = .slice none 0 0 ∧ H' = [⟨o, cl (ivs l ++ tl) 3⟩]) := by
  refine Spec.of (E := [(0, slV o l.length c)]) Try.func26 rfl (by kernel_rfl) Try.ntmps26 rfl rfl (fun w => ?_)
  refine WC_seq ?_
  refine WC_region ?_
  refine WL_val rfl rfl rfl (R_assign rfl rfl) ?_
  refine WL_nil ?_
  refine WQ_code ?_
  refine WC_seq ?_
  refine WC_seq ?_
  refine WC_region ?_
  refine WL_val rfl rfl rfl (R_move rfl rfl) ?_
  refine WL_val rfl rfl rfl (R_sliceEqNil rfl Try.underlying36 rfl) ?_
  refine WL_set (s := 4) (v := .bool true) rfl (by rw [ho]; rfl) ?_
  refine WL_nil ?_
  refine WQ_code ?_
  refine WC_T rfl ?_
  refine WC_seq ?_
  refine WC_region ?_
  refine WL_val rfl rfl rfl (R_assign rfl rfl) ?_
  refine WL_nil ?_
  refine WQ_code ?_
  refine WC_ret ?_
  refine WQ_ret rfl rfl (.cons (.tmp rfl) .nil) rfl (by
      exact ⟨rfl, rfl⟩) (pqD)
theorem iclone_ok {l : List Int} (hl : l.length ≤ 1000000) {o : Option Nat} {c : Nat} {tl : List Value} (own : Own o l.length c 1 (ivs l) tl) : Spec Try.prog 26 [slV o l.length c] [⟨o, cl (ivs l ++ tl) 3⟩] (fun r H' => ∃ o2 c2 tl2, r = slV o2 l.length c2 ∧ Own o2 l.length c2 1 (ivs l) tl2 ∧ H' = [⟨o2, cl (ivs l ++ tl2) 3⟩] ++ [⟨o, cl (ivs l ++ tl) 3⟩]) := by
  cases ho : o with
  | none =>
    have h1 := iclone_ok_none hl own ho
    subst ho
    obtain ⟨h0, rfl, h2, rfl⟩ := own.void'
    have hl0 : l = [] := List.eq_nil_of_length_eq_zero h0
    subst hl0
    exact fr_none 3 h1 fun r H' ⟨e1, e2⟩ => ⟨_, .refl _, none, 0, [], by rw [e1]; rfl, Own.empty 1, by rw [e2]; rfl⟩
  | some wa =>
    subst ho
    refine Spec.of (E := [(0, slV (some wa) l.length c)]) Try.func26 rfl (by kernel_rfl) Try.ntmps26 rfl rfl (fun w => ?_)
    refine WC_seq ?_
    refine WC_region ?_
    refine WL_val rfl rfl rfl (R_assign rfl rfl) ?_
    refine WL_nil ?_
    refine WQ_code ?_
    refine WC_seq ?_
    refine WC_seq ?_
    refine WC_region ?_
    refine WL_val rfl rfl rfl (R_move rfl rfl) ?_
    refine WL_val rfl rfl rfl (R_sliceEqNil rfl Try.underlying36 rfl) ?_
    refine WL_nil ?_
    refine WQ_code ?_
    refine WC_F rfl ?_
    refine WC_skip ?_
    refine WQ_code ?_
    refine WC_seq ?_
    refine WC_region ?_
    refine WL_do rfl rfl rfl (D_buildSlice rfl si36 rfl rfl rfl) ?_
    rintro _ _ ⟨b1, rfl, rfl⟩
    refine WL_val rfl rfl rfl (R_move rfl rfl) ?_
    refine WL_do rfl rfl rfl (D_appendO rfl si36 rfl (⟨by simp, by simp, by simp, by simp, (fun h => by cases h)⟩ : Own (some b1) 0 0 1 [] []) plD rfl own mmD (ivs_one _) (by omega) (by omega)) ?_
    rintro _ _ ⟨ob2, c2, tl2, rfl, own2, rfl⟩
    rw [Nat.zero_add, List.nil_append] at own2
    refine WL_val rfl rfl rfl (R_assign rfl rfl) ?_
    refine WL_nil ?_
    refine WQ_code ?_
    refine WC_ret ?_
    refine WQ_ret rfl rfl (.cons (.tmp rfl) .nil) rfl (by
        exact ⟨ob2, c2, tl2, by rw [Nat.zero_add]; rfl, own2, rfl⟩) (pqD)
theorem sopen_ok {m : SvM} {x : Sv} (h : SvIs m x) (hb : SvB x)  : Spec Try.prog 8 [ptrC m.p] (svH m x) (fun r H' => ∃ o c tl, r = slV o x.opn.length c ∧ Own o x.opn.length c 1 (ivs x.opn) tl ∧ H' = svH m x ++ [⟨o, cl (ivs x.opn ++ tl) 3⟩]) := by
  have hop := hb.opn
  have hqu := hb.qu
  have hbo := hb.out
  refine Spec.of (E := [(0, ptrC m.p)]) Try.func8 rfl (by kernel_rfl) Try.ntmps8 rfl rfl (fun w => ?_)
  refine WC_seq ?_
  refine WC_region ?_
  refine WL_val rfl rfl rfl (R_assign rfl rfl) ?_
  refine WL_nil ?_
  refine WQ_code ?_
  refine WC_seq ?_
  refine WC_seq ?_
  refine WC_region ?_
  refine WL_val rfl rfl rfl (R_move rfl rfl) ?_
  refine WL_val rfl rfl rfl (R_ptrEqNil rfl Try.underlying35 rfl) ?_
  refine WL_nil ?_
  refine WQ_code ?_
  refine WC_F rfl ?_
  refine WC_skip ?_
  refine WQ_code ?_
  refine WC_seq ?_
  refine WC_region ?_
  refine WL_val rfl rfl rfl (R_move rfl rfl) ?_
  refine WL_val rfl rfl rfl (R_nilCheck rfl rfl) ?_
  refine WL_val rfl rfl rfl (R_fieldAddr rfl fa39_1 rfl) ?_
  refine WL_val rfl rfl rfl (R_load rfl sc36 rfl (mmD) rfl) ?_
  refine WL_do rfl rfl rfl (D_call (iclone_ok (by omega) h.cO) rfl rfl rfl rfl (pqD)) ?_
  rintro _ _ ⟨_, ⟨o9, c9, tl9, rfl, own9, rfl⟩, rfl⟩
  refine WL_val rfl rfl rfl (R_assign rfl rfl) ?_
  refine WL_nil ?_
  refine WQ_code ?_
  refine WC_ret ?_
  refine WQ_ret rfl rfl (.cons (.tmp rfl) .nil) rfl (by
      exact ⟨o9, c9, tl9, rfl, own9, rfl⟩) (pqD)
end Go.Proofs.Ytdelhikejgoffaa
end
section
set_option linter.unusedVariables false
set_option maxRecDepth 20000
set_option maxHeartbeats 1000000
namespace Go.Proofs.Ytdelhikejgoffaa
theorem nani_ok (a : Int) : Spec Try.prog 72 [.int .i64 a] [] (fun r H' => r = .bool false ∧ H' = []) := by
  refine Spec.of (E := [(0, .int .i64 a)]) Try.func72 rfl (by kernel_rfl) Try.ntmps72 rfl rfl (fun w => ?_)
  refine WC_seq ?_
  refine WC_region ?_
  refine WL_val rfl rfl rfl (R_assign rfl rfl) ?_
  refine WL_nil ?_
  refine WQ_code ?_
  refine WC_seq ?_
  refine WC_region ?_
  refine WL_val rfl rfl rfl (R_move rfl rfl) ?_
  refine WL_val rfl rfl rfl (R_move rfl rfl) ?_
  refine WL_val rfl rfl rfl (R_neq rfl rfl rfl) ?_
  refine WL_val rfl rfl rfl (R_assign rfl rfl) ?_
  refine WL_nil ?_
  refine WQ_code ?_
  refine WC_ret ?_
  refine WQ_ret rfl rfl (.cons (.tmp rfl) .nil) rfl (by
      exact ⟨congrArg Value.bool (by simp), rfl⟩) (pqY)
theorem nant_ok (a : Int) : Spec Try.prog 71 [.int .u64 a] [] (fun r H' => r = .bool false ∧ H' = []) := by
  refine Spec.of (E := [(0, .int .u64 a)]) Try.func71 rfl (by kernel_rfl) Try.ntmps71 rfl rfl (fun w => ?_)
  refine WC_seq ?_
  refine WC_region ?_
  refine WL_val rfl rfl rfl (R_assign rfl rfl) ?_
  refine WL_nil ?_
  refine WQ_code ?_
  refine WC_seq ?_
  refine WC_region ?_
  refine WL_val rfl rfl rfl (R_move rfl rfl) ?_
  refine WL_val rfl rfl rfl (R_move rfl rfl) ?_
  refine WL_val rfl rfl rfl (R_neq rfl rfl rfl) ?_
  refine WL_val rfl rfl rfl (R_assign rfl rfl) ?_
  refine WL_nil ?_
  refine WQ_code ?_
  refine WC_ret ?_
  refine WQ_ret rfl rfl (.cons (.tmp rfl) .nil) rfl (by
      exact ⟨congrArg Value.bool (by simp), rfl⟩) (pqY)
theorem cmpi_ok (a b : Int) : Spec Try.prog 58 [.int .i64 a, .int .i64 b] [] (fun r H' => r = .int .i64 (cmpI a b) ∧ H' = []) := by
  refine Spec.of (E := [(0, .int .i64 a), (1, .int .i64 b)]) Try.func58 rfl (by kernel_rfl) Try.ntmps58 rfl rfl (fun w => ?_)
  refine WC_seq ?_
  refine WC_region ?_
  refine WL_val rfl rfl rfl (R_assign rfl rfl) ?_
  refine WL_nil ?_
  refine WQ_code ?_
  refine WC_seq ?_
  refine WC_region ?_
  refine WL_val rfl rfl rfl (R_move rfl rfl) ?_
  refine WL_do rfl rfl rfl (D_call (nani_ok _) rfl rfl rfl rfl (pqY)) ?_
  rintro _ _ ⟨_, ⟨rfl, rfl⟩, rfl⟩
  refine WL_val rfl rfl rfl (R_assign rfl rfl) ?_
  refine WL_nil ?_
  refine WQ_code ?_
  refine WC_seq ?_
  refine WC_region ?_
  refine WL_val rfl rfl rfl (R_move rfl rfl) ?_
  refine WL_do rfl rfl rfl (D_call (nani_ok _) rfl rfl rfl rfl (pqY)) ?_
  rintro _ _ ⟨_, ⟨rfl, rfl⟩, rfl⟩
  refine WL_val rfl rfl rfl (R_assign rfl rfl) ?_
  refine WL_nil ?_
  refine WQ_code ?_
  refine WC_seq ?_
  refine WC_seq ?_
  refine WC_region ?_
  refine WL_val rfl rfl rfl (R_move rfl rfl) ?_
  refine WL_nil ?_
  refine WQ_code ?_
  refine WC_F rfl ?_
  refine WC_skip ?_
  refine WQ_code ?_
  refine WC_seq ?_
  refine WC_seq ?_
  refine WC_region ?_
  refine WL_val rfl rfl rfl (R_move rfl rfl) ?_
  refine WL_nil ?_
  refine WQ_code ?_
  refine WC_F rfl ?_
  refine WC_skip ?_
  refine WQ_code ?_
  refine WC_seq ?_
  refine WC_seq ?_
  refine WC_region ?_
  refine WL_val rfl rfl rfl (R_move rfl rfl) ?_
  refine WL_val rfl rfl rfl (R_move rfl rfl) ?_
  refine WL_val rfl rfl rfl (R_lss rfl rfl rfl) ?_
  refine WL_nil ?_
  refine WQ_code ?_
  refine WC_dec rfl (fun c1 => ?_) (fun c1 => ?_)
  · refine WC_seq ?_
    refine WC_region ?_
    refine WL_val rfl rfl rfl (R_assign rfl rfl) ?_
    refine WL_nil ?_
    refine WQ_code ?_
    refine WC_ret ?_
    refine WQ_ret rfl rfl (.cons (.tmp rfl) .nil) rfl (by
        exact ⟨congrArg (Value.int .i64) (by unfold cmpI; (repeat split) <;> omega), rfl⟩) (pqY)
  · refine WC_skip ?_
    refine WQ_code ?_
    refine WC_seq ?_
    refine WC_seq ?_
    refine WC_region ?_
    refine WL_val rfl rfl rfl (R_move rfl rfl) ?_
    refine WL_val rfl rfl rfl (R_move rfl rfl) ?_
    refine WL_val rfl rfl rfl (R_gtr rfl rfl rfl) ?_
    refine WL_nil ?_
    refine WQ_code ?_
    refine WC_dec rfl (fun c2 => ?_) (fun c2 => ?_)
    · refine WC_seq ?_
      refine WC_region ?_
      refine WL_val rfl rfl rfl (R_assign rfl rfl) ?_
      refine WL_nil ?_
      refine WQ_code ?_
      refine WC_ret ?_
      refine WQ_ret rfl rfl (.cons (.tmp rfl) .nil) rfl (by
          exact ⟨congrArg (Value.int .i64) (by unfold cmpI; (repeat split) <;> omega), rfl⟩) (pqY)
    · refine WC_skip ?_
      refine WQ_code ?_
      refine WC_seq ?_
      refine WC_region ?_
      refine WL_val rfl rfl rfl (R_assign rfl rfl) ?_
      refine WL_nil ?_
      refine WQ_code ?_
      refine WC_ret ?_
      refine WQ_ret rfl rfl (.cons (.tmp rfl) .nil) rfl (by
          exact ⟨congrArg (Value.int .i64) (by unfold cmpI; (repeat split) <;> omega), rfl⟩) (pqY)
theorem cmpt_ok (a b : Int) : Spec Try.prog 57 [.int .u64 a, .int .u64 b] [] (fun r H' => r = .int .i64 (cmpI a b) ∧ H' = []) := by
  refine Spec.of (E := [(0, .int .u64 a), (1, .int .u64 b)]) Try.func57 rfl (by kernel_rfl) Try.ntmps57 rfl rfl (fun w => ?_)
  refine WC_seq ?_
  refine WC_region ?_
  refine WL_val rfl rfl rfl (R_assign rfl rfl) ?_
  refine WL_nil ?_
  refine WQ_code ?_
  refine WC_seq ?_
  refine WC_region ?_
  refine WL_val rfl rfl rfl (R_move rfl rfl) ?_
  refine WL_do rfl rfl rfl (D_call (nant_ok _) rfl rfl rfl rfl (pqY)) ?_
  rintro _ _ ⟨_, ⟨rfl, rfl⟩, rfl⟩
  refine WL_val rfl rfl rfl (R_assign rfl rfl) ?_
  refine WL_nil ?_
  refine WQ_code ?_
  refine WC_seq ?_
  refine WC_region ?_
  refine WL_val rfl rfl rfl (R_move rfl rfl) ?_
  refine WL_do rfl rfl rfl (D_call (nant_ok _) rfl rfl rfl rfl (pqY)) ?_
  rintro _ _ ⟨_, ⟨rfl, rfl⟩, rfl⟩
  refine WL_val rfl rfl rfl (R_assign rfl rfl) ?_
  refine WL_nil ?_
  refine WQ_code ?_
  refine WC_seq ?_
  refine WC_seq ?_
  refine WC_region ?_
  refine WL_val rfl rfl rfl (R_move rfl rfl) ?_
  refine WL_nil ?_
  refine WQ_code ?_
  refine WC_F rfl ?_
  refine WC_skip ?_
  refine WQ_code ?_
  refine WC_seq ?_
  refine WC_seq ?_
  refine WC_region ?_
  refine WL_val rfl rfl rfl (R_move rfl rfl) ?_
  refine WL_nil ?_
  refine WQ_code ?_
  refine WC_F rfl ?_
  refine WC_skip ?_
  refine WQ_code ?_
  refine WC_seq ?_
  refine WC_seq ?_
  refine WC_region ?_
  refine WL_val rfl rfl rfl (R_move rfl rfl) ?_
  refine WL_val rfl rfl rfl (R_move rfl rfl) ?_
  refine WL_val rfl rfl rfl (R_lss rfl rfl rfl) ?_
  refine WL_nil ?_
  refine WQ_code ?_
  refine WC_dec rfl (fun c1 => ?_) (fun c1 => ?_)
  · refine WC_seq ?_
    refine WC_region ?_
    refine WL_val rfl rfl rfl (R_assign rfl rfl) ?_
    refine WL_nil ?_
    refine WQ_code ?_
    refine WC_ret ?_
    refine WQ_ret rfl rfl (.cons (.tmp rfl) .nil) rfl (by
        exact ⟨congrArg (Value.int .i64) (by unfold cmpI; (repeat split) <;> omega), rfl⟩) (pqY)
  · refine WC_skip ?_
    refine WQ_code ?_
    refine WC_seq ?_
    refine WC_seq ?_
    refine WC_region ?_
    refine WL_val rfl rfl rfl (R_move rfl rfl) ?_
    refine WL_val rfl rfl rfl (R_move rfl rfl) ?_
    refine WL_val rfl rfl rfl (R_gtr rfl rfl rfl) ?_
    refine WL_nil ?_
    refine WQ_code ?_
    refine WC_dec rfl (fun c2 => ?_) (fun c2 => ?_)
    · refine WC_seq ?_
      refine WC_region ?_
      refine WL_val rfl rfl rfl (R_assign rfl rfl) ?_
      refine WL_nil ?_
      refine WQ_code ?_
      refine WC_ret ?_
      refine WQ_ret rfl rfl (.cons (.tmp rfl) .nil) rfl (by
          exact ⟨congrArg (Value.int .i64) (by unfold cmpI; (repeat split) <;> omega), rfl⟩) (pqY)
    · refine WC_skip ?_
      refine WQ_code ?_
      refine WC_seq ?_
      refine WC_region ?_
      refine WL_val rfl rfl rfl (R_assign rfl rfl) ?_
      refine WL_nil ?_
      refine WQ_code ?_
      refine WC_ret ?_
      refine WQ_ret rfl rfl (.cons (.tmp rfl) .nil) rfl (by
          exact ⟨congrArg (Value.int .i64) (by unfold cmpI; (repeat split) <;> omega), rfl⟩) (pqY)
theorem cor_ok (l : List Int) (hl : l.length ≤ 100) (o : Option Nat) (c : Nat) (tl : List Value) (own : Own o l.length c 1 (ivs l) tl) : Spec Try.prog 56 [slV o l.length c] [⟨o, cl (ivs l ++ tl) 3⟩] (fun r H' => r = .int .i64 (orL l) ∧ H' = [⟨o, cl (ivs l ++ tl) 3⟩]) := by
  refine Spec.of (E := [(0, slV o l.length c)]) Try.func56 rfl (by kernel_rfl) Try.ntmps56 rfl rfl (fun w => ?_)
  refine WC_seq ?_
  refine WC_region ?_
  refine WL_val rfl rfl rfl (R_assign rfl rfl) ?_
  refine WL_nil ?_
  refine WQ_code ?_
  refine WC_seq ?_
  refine WC_region ?_
  refine WL_val rfl rfl rfl (R_assign rfl rfl) ?_
  refine WL_nil ?_
  refine WQ_code ?_
  refine WC_seq ?_
  refine WC_seq ?_
  refine WC_region ?_
  refine WL_val rfl rfl rfl (R_move rfl rfl) ?_
  refine WL_val rfl rfl rfl (R_len rfl Try.underlying36 rfl) ?_
  refine WL_val rfl rfl rfl (R_move rfl rfl) ?_
  refine WL_nil ?_
  refine WQ_code ?_
  refine WC_block ?_
  refine WC_loopF (G := Nat) [2, 5, 8, 9, 10, 11, 12, 13, 14, 15, 16] (fun k => k ≤ l.length ∧ ∀ v ∈ l.take k, v = 0) (fun k => [(8, .int .i64 (k : Int))]) (fun k => []) (fun k => l.length - k) (0) (⟨Nat.zero_le _, by simp⟩) leZ (pqY) ?_
  rintro k ⟨hk, hz⟩
  refine WC_seq ?_
  refine WC_region ?_
  refine WL_val rfl rfl rfl (R_lss rfl rfl rfl) ?_
  refine WL_nil ?_
  refine WQ_code ?_
  refine WC_seq ?_
  refine WC_dec rfl (fun c1 => ?_) (fun c1 => ?_)
  · refine WC_skip ?_
    refine WQ_code ?_
    refine WC_seq ?_
    refine WC_block ?_
    refine WC_seq ?_
    refine WC_region ?_
    obtain ⟨x, hx⟩ := getE (T := l) (i := k) (by omega)
    obtain ⟨wa, hwa⟩ := own.some_of (by omega)
    refine WL_val rfl rfl rfl (R_idxO hwa rfl Try.underlying36 Try.sizeOf3 rfl rfl (by omega)) ?_
    refine WL_val rfl rfl rfl (R_loadO (v := .int .i64 x) hwa rfl sc3 rfl (mmY) (fm_get0 encI1 hx (j := 0) (by omega))) ?_
    refine WL_val rfl rfl rfl (R_assign rfl rfl) ?_
    refine WL_nil ?_
    refine WQ_code ?_
    refine WC_seq ?_
    refine WC_region ?_
    refine WL_val rfl rfl rfl (R_move rfl rfl) ?_
    refine WL_val rfl rfl rfl (R_move rfl rfl) ?_
    refine WL_val rfl rfl rfl (R_neq rfl rfl rfl) ?_
    refine WL_nil ?_
    refine WQ_code ?_
    refine WC_dec rfl (fun c2 => ?_) (fun c2 => ?_)
    · have hc := c2
      refine WC_seq ?_
      refine WC_region ?_
      refine WL_val rfl rfl rfl (R_move rfl rfl) ?_
      refine WL_val rfl rfl rfl (R_assign rfl rfl) ?_
      refine WL_nil ?_
      refine WQ_code ?_
      refine WC_ret ?_
      refine WQ_ret rfl rfl (.cons (.tmp rfl) .nil) rfl (by
          exact ⟨congrArg (Value.int .i64) (orL_hit hz hx hc).symm, rfl⟩) (pqY)
    · have hc := c2
      refine WC_skip ?_
      refine WQ_code ?_
      refine WC_region ?_
      refine WL_val rfl rfl rfl (R_add rfl rfl rfl (by omega)) ?_
      refine WL_val rfl rfl rfl (R_move rfl rfl) ?_
      refine WL_nil ?_
      refine WQ_nextF (k + 1) (⟨by omega, fun v hv => by rw [take_next hx] at hv; rcases List.mem_append.1 hv with hv | hv; exact hz v hv; rw [List.mem_singleton.1 hv]; omega⟩) (by omega) leZ (psZ) rfl (pqY)
  · have hkl : l.length ≤ k := by omega
    refine WC_exit ?_
    refine WQ_code ?_
    refine WC_seq ?_
    refine WC_region ?_
    refine WL_val rfl rfl rfl (R_move rfl rfl) ?_
    refine WL_val rfl rfl rfl (R_assign rfl rfl) ?_
    refine WL_nil ?_
    refine WQ_code ?_
    refine WC_ret ?_
    refine WQ_ret rfl rfl (.cons (.tmp rfl) .nil) rfl (by
        exact ⟨congrArg (Value.int .i64) (orL_none hz hkl).symm, rfl⟩) (pqY)
end Go.Proofs.Ytdelhikejgoffaa
end
section
namespace Go.Proofs.Ytdelhikejgoffaa
open Go.Shelf Go.RowKit Go.Lib Go.Sort
/-- A world with the same blocks and new ones behind them. -/
theorem hw_grow {Hc : Heap} {W W' : World} (h : HOK Hc W) (c : HW Hc W Hc W') : ∃ q os', W' = grow (W.drewN q) os' := by
  have hb := HW.belOf h c
  refine ⟨W'.drawn - W.drawn, W'.heap.extract W.heap.size W'.heap.size, ?_⟩
  have hheap : W'.heap = W.heap ++ W'.heap.extract W.heap.size W'.heap.size := by
    apply Array.ext_getElem?
    intro k
    rw [Array.getElem?_append]
    by_cases hk : k < W.heap.size
    · rw [if_pos hk]; exact hb.block k hk
    · rw [if_neg hk, Array.getElem?_extract]
      by_cases h2 : k < W'.heap.size
      · rw [if_pos (by omega)]; congr 1; omega
      · rw [if_neg (by omega), Array.getElem?_eq_none (by omega)]
  have hdr := c.dr
  obtain ⟨hp, tp, dr, os, out⟩ := W'
  obtain ⟨hp0, tp0, dr0, os0, out0⟩ := W
  have e1 := c.os
  have e2 := c.tape
  have e3 := c.output
  dsimp only at e1 e2 e3 hdr hheap
  subst e1 e2 e3
  simp only [grow, World.drewN, World.mk.injEq, true_and, and_true]
  exact ⟨hheap, by omega⟩
section
variable {α : Type} [Inhabited α] {enc : α → Value}
theorem holds_of {w : World} {b : Nat} {e : TypeId} {d : List α} {tl : List Value} (hb : w.heap[b]? = some (cl (d.map enc ++ tl) e)) : Holds enc w b 0 d.toArray := fun j hj => by
  have hj' : j < d.length := by simpa using hj
  have hg : (d.map enc ++ tl)[j]? = some (enc d[j]) := by rw [List.getElem?_append_left (by simpa using hj'), List.getElem?_map, List.getElem?_eq_getElem hj']; rfl
  refine ⟨?_, ?_⟩
  · simp only [World.cell?, hb, cl, Nat.zero_add, List.getElem?_toArray, hg]
    simp [hj']
  · simp [World.frozen?, hb, cl]
theorem sw_hw {Hc : Heap} {w : World} {b : Nat} {e : TypeId} {d d' : List α} {tl : List Value} (hw : HOK (⟨some b, cl (d.map enc ++ tl) e⟩ :: Hc) w) (hl : d'.length = d.length) (m : Nat) (os : Array Obj) :
    HW (⟨some b, cl (d.map enc ++ tl) e⟩ :: Hc) w (⟨some b, cl (d'.map enc ++ tl) e⟩ :: Hc) (sortWorld enc w b 0 m d'.toArray os) := by
  have hb : w.heap[b]? = some (cl (d.map enc ++ tl) e) := by
    have := hw.ok _ (List.mem_cons_self ..)
    simpa [Ent.ok] using this
  have hlt := (Array.getElem?_eq_some_iff.1 hb).1
  have hput : putCells enc 0 d'.toArray (d.map enc ++ tl).toArray = (d'.map enc ++ tl).toArray := by
    apply Array.ext_getElem?
    intro k
    simp only [putCells, Array.getElem?_mapIdx, List.getElem?_toArray]
    by_cases hk : k < d'.length
    · rw [List.getElem?_append_left (by simpa using (by omega : k < d.length)), List.getElem?_append_left (by simpa using hk), List.getElem?_map, List.getElem?_map, List.getElem?_eq_getElem (by omega : k < d.length), List.getElem?_eq_getElem hk]
      simp [hk]
    · rw [List.getElem?_append_right (by simp; omega), List.getElem?_append_right (by simp; omega)]
      simp only [List.length_map, hl]
      cases tl[k - d.length]? with
      | none => rfl
      | some v => simp [hk]
  have hsame : (sortWorld enc w b 0 m d'.toArray os).heap[b]? = some (cl (d'.map enc ++ tl) e) := by
    simp only [sortWorld, grow, putRow, mapBlock, Sort.ahead, Array.getElem?_append, Array.size_modify, hlt, if_true, Array.getElem?_modify, hb, Option.map_some, cl, onCells]
    rw [hput]
  have hother : ∀ k, k < w.heap.size → k ≠ b → (sortWorld enc w b 0 m d'.toArray os).heap[k]? = w.heap[k]? := fun k hk hne => by
    simp only [sortWorld, grow, putRow, mapBlock, Sort.ahead, Array.getElem?_append, Array.size_modify, hk, if_true, Array.getElem?_modify, if_neg (Ne.symm hne)]
  have hnd := hw.nodup
  simp only [keys, List.filterMap_cons, List.nodup_cons] at hnd
  refine ⟨⟨by simp only [keys, List.filterMap_cons, List.nodup_cons]; exact hnd, fun x hx => ?_⟩, rfl, rfl, rfl, ?_, fun k hk hn => ?_, fun k hk => .inl (by simpa [keys] using hk), ?_⟩
  · rcases List.mem_cons.1 hx with rfl | hx2
    · simpa [Ent.ok] using hsame
    · have h1 := hw.ok x (List.mem_cons_of_mem _ hx2)
      cases hxb : x.b with
      | none => simp only [Ent.ok, hxb] at h1 ⊢; exact h1
      | some c =>
        simp only [Ent.ok, hxb] at h1 ⊢
        have hne : c ≠ b := fun e => hnd.1 (by subst e; exact List.mem_filterMap.2 ⟨x, hx2, hxb⟩)
        rw [hother c (Array.getElem?_eq_some_iff.1 h1).1 hne]; exact h1
  · simp [sortWorld, grow, putRow, mapBlock, Sort.ahead]
  · exact hother k hk (fun e => hn (by subst e; simp [keys]))
  · simp [sortWorld, grow, putRow, mapBlock, Sort.ahead]
end
end Go.Proofs.Ytdelhikejgoffaa
end
section
namespace Go.Proofs.Ytdelhikejgoffaa
open Go.Shelf Go.RowKit Go.Lib Go.Sort
section
variable {α : Type} [Inhabited α] {enc : α → List Value} {k : Nat}
theorem flat_eq (hk : ∀ x, (enc x).length = k) (d : List α) : flatK enc k d.toArray = (d.flatMap enc).toArray := by
  have hs : (d.flatMap enc).length = d.length * k := fm_length hk d
  apply Array.ext
  · simp [hs]
  · intro t h1 h2
    have ht : t < d.length * k := by simpa using h1
    have k0 : 0 < k := by rcases Nat.eq_zero_or_pos k with h | h; · subst h; simp at ht
                          · exact h
    have hi : t / k < d.length := Nat.div_lt_of_lt_mul (by rw [Nat.mul_comm]; exact ht)
    have hj : t % k < k := Nat.mod_lt t k0
    have hg := get_flatK enc k d.toArray t (by simpa using ht)
    rw [getElem!_pos _ t h1] at hg
    have hx : d[t / k]? = some d[t / k] := List.getElem?_eq_getElem hi
    have hf := fm_get hk hx hj []
    rw [List.append_nil, show t / k * k + t % k = t from by rw [Nat.mul_comm]; exact Nat.div_add_mod t k] at hf
    rw [hg]
    have e1 : d.toArray[t / k]! = d[t / k] := by simp [hi]
    rw [e1, getElem!_pos _ _ (by rw [hk]; exact hj)]
    have h3 : t < (d.flatMap enc).length := by simpa using h2
    rw [List.getElem?_eq_getElem h3, List.getElem?_eq_getElem (by rw [hk]; exact hj)] at hf
    simpa using (Option.some.inj hf).symm
theorem sortK_ok {P : Program} {ρ : Ren} (L : SlLaysF0.n6 P ρ) (f : Nat) (hf : ρ.f 6 = f) (aE : ∀ w, (isAgg (ρ.t 24)).run P w = .ok true w) (zE : ∀ w, (Go.sizeOf (ρ.t 24)).run P w = .ok k w) (hk : ∀ x, (enc x).length = k) (h1 : ∀ x, ∀ v ∈ enc x, v.oneCell' = true)
    (cf : α → α → Int) (hO : SWO (ltOf cf)) (g : Nat) (cb : List Value) (Hc : Heap) (hcmp : ∀ x y, Spec P g ([.agg (enc x).toArray, .agg (enc y).toArray] ++ cb) Hc (fun r H' => r = .int .i64 (cf x y) ∧ H' = Hc)) (hen : Enters P f)
    (b n c : Nat) (e : TypeId) (d : List α) (tl : List Value) (hn : d.length = n) (hsz : n < 4611686018427387904) :
    Spec P f [slV (some b) n c, .func (.func g) #[] cb.toArray] (⟨some b, cl (d.flatMap enc ++ tl) e⟩ :: Hc)
      (fun r H' => ∃ d' : List α, r = .tuple #[] ∧ d'.Perm d ∧ d'.Pairwise (fun x y => ltOf cf y x = false) ∧ H' = ⟨some b, cl (d'.flatMap enc ++ tl) e⟩ :: Hc) := by
  subst hf hn
  refine ⟨hen, fun w hw => callsIn_wide.2 ?_⟩
  have hb : w.heap[b]? = some (cl (d.flatMap enc ++ tl) e) := by
    have := hw.ok _ (List.mem_cons_self ..)
    simpa [Ent.ok] using this
  have hlt := (Array.getElem?_eq_some_iff.1 hb).1
  have hsw : ∀ (m : Nat) (os : Array Obj) (dk : List α), dk.length = d.length → HW (⟨some b, cl (d.flatMap enc ++ tl) e⟩ :: Hc) w (⟨some b, cl (dk.flatMap enc ++ tl) e⟩ :: Hc) (sortWorldK enc k w b 0 m dk.toArray os) := fun m os dk hdk => by
    have hw' : HOK (⟨some b, cl ((d.flatMap enc).map id ++ tl) e⟩ :: Hc) w := by rw [List.map_id]; exact hw
    have := sw_hw (enc := id) (d := d.flatMap enc) (d' := dk.flatMap enc) (tl := tl) hw' (by rw [fm_length hk, fm_length hk, hdk]) m os
    rw [List.map_id, List.map_id, ← flat_eq hk dk] at this
    exact this
  have hc : CmpLays P g cb.toArray enc k cf b 0 d.toArray.size w := fun m os dk hdk x y => by
    have hw2 := hsw m os dk.toList (by simpa using hdk)
    simp only [Array.toArray_toList] at hw2
    have hok : HOK Hc (sortWorldK enc k w b 0 m dk os) := (hw2.perm (by simpa using (List.perm_append_comm (l₁ := [_]) (l₂ := Hc)))).left.hok
    have := callsIn_wide.1 ((hcmp x y).calls _ hok)
    rw [show ((#[Value.agg (enc x).toArray, Value.agg (enc y).toArray] : Array Value) ++ cb.toArray) = ([Value.agg (enc x).toArray, Value.agg (enc y).toArray] ++ cb).toArray from by simp]
    refine this.mono fun e w' ⟨v, H', e1, ⟨e2, e3⟩, e4⟩ => ⟨by rw [e1, e2], ?_⟩
    subst e3
    exact hw_grow hok e4
  have hH : HoldsK enc k w b 0 d.toArray := by
    unfold HoldsK
    rw [flat_eq hk]
    exact holds_of (enc := id) (by rw [List.map_id]; exact hb)
  have := AnyQ.slices_SortFunc L k aE zE enc hk h1 cf hO g cb.toArray b 0 c d.toArray w (hcmp default default).enters hc hH hlt (by simpa using hsz)
  refine this.mono fun e w' ⟨he, d', m, os, hp, hs, hwe⟩ => ?_
  obtain ⟨hs1, _, hp2⟩ := hp
  have hsz2 : d'.size = d.length := by simpa using hs1
  refine ⟨_, _, he, ⟨d'.toList, rfl, ?_, ?_, rfl⟩, ?_⟩
  · have e1 : d'.extract 0 d.toArray.size = d' := by simp [← hsz2]
    have e2 : d.toArray.extract 0 d.toArray.size = d.toArray := by simp
    rw [e1, e2] at hp2
    simpa using hp2
  · rw [List.pairwise_iff_getElem]
    intro i j hi hj hij
    have := hs i j (Nat.zero_le _) hij (by simpa [hsz2] using hj)
    have hi' : i < d'.size := by simpa using hi
    have hj' : j < d'.size := by simpa using hj
    simpa [hi', hj'] using this
  · rw [hwe]
    have := hsw m os d'.toList (by simpa using hsz2)
    simpa only [Array.toArray_toList] using this
end
theorem sort_none {P : Program} {ρ : Ren} (L : SlLaysF0.n6 P ρ) (f : Nat) (hf : ρ.f 6 = f) (hen : Enters P f) (ob : Option Nat) (c : Nat) (fv : Value) : Spec P f [slV ob 0 c, fv] [] (fun r H' => r = .tuple #[] ∧ H' = []) := by
  subst hf
  refine ⟨hen, fun w hw => callsIn_wide.2 ?_⟩
  have h : ∀ p, Calls P (ρ.f 6) #[.slice p 0 c, fv] w fun e w' => e = .returned (.tuple #[]) ∧ w' = w := fun p => AnyF.slices_SortFunc_none L p c fv w
  cases ob with
  | none => exact (h none).mono fun e w' ⟨e1, e2⟩ => ⟨_, _, e1, ⟨rfl, rfl⟩, by rw [e2]; exact HW.start hw⟩
  | some b => exact (h (some ⟨b, 0, none⟩)).mono fun e w' ⟨e1, e2⟩ => ⟨_, _, e1, ⟨rfl, rfl⟩, by rw [e2]; exact HW.start hw⟩
end Go.Proofs.Ytdelhikejgoffaa
end
section
set_option linter.unusedVariables false
set_option maxRecDepth 20000
namespace Go.Proofs.Ytdelhikejgoffaa
open Go.Shelf
def lysC_ren : Go.Shelf.Ren := ⟨fun | 6 => 54 | 14 => 69 | 15 => 70 | 20 => 79 | 21 => 80 | 22 => 81 | 23 => 82 | 24 => 83 | 25 => 84 | 26 => 85 | 27 => 86 | 28 => 87 | 29 => 88 | 46 => 90 | 47 => 91 | 48 => 92 | 49 => 93 | 50 => 94 | 57 => 95 | n => n, fun | 0 => 0 | 3 => 3 | 4 => 4 | 5 => 5 | 9 => 9 | 22 => 31 | 24 => 78 | 25 => 104 | 39 => 116 | 45 => 127 | 46 => 128 | 50 => 132 | 53 => 135 | 55 => 29 | 66 => 138 | 70 => 142 | 76 => 144 | 77 => 145 | n => n, fun n => n⟩
theorem lysC : SlLaysF0.n6 Try.prog lysC_ren := {
  mixed := by kernel_rfl,
  f6 := ⟨Try.f54.name, by decide, Try.func54.trans (congrArg some (by kernel_rfl))⟩,
  f14 := ⟨Try.f69.name, by decide, Try.func69.trans (congrArg some (by kernel_rfl))⟩,
  f15 := Try.func70.trans (congrArg some (by kernel_rfl)),
  f20 := ⟨Try.f79.name, by decide, Try.func79.trans (congrArg some (by kernel_rfl))⟩,
  f21 := ⟨Try.f80.name, by decide, Try.func80.trans (congrArg some (by kernel_rfl))⟩,
  f22 := ⟨Try.f81.name, by decide, Try.func81.trans (congrArg some (by kernel_rfl))⟩,
  f23 := ⟨Try.f82.name, by decide, Try.func82.trans (congrArg some (by kernel_rfl))⟩,
  f24 := ⟨Try.f83.name, by decide, Try.func83.trans (congrArg some (by kernel_rfl))⟩,
  f25 := ⟨Try.f84.name, by decide, Try.func84.trans (congrArg some (by kernel_rfl))⟩,
  f26 := ⟨Try.f85.name, by decide, Try.func85.trans (congrArg some (by kernel_rfl))⟩,
  f27 := ⟨Try.f86.name, by decide, Try.func86.trans (congrArg some (by kernel_rfl))⟩,
  f28 := Try.func87.trans (congrArg some (by kernel_rfl)),
  f29 := Try.func88.trans (congrArg some (by kernel_rfl)),
  f46 := ⟨Try.f90.name, by decide, Try.func90.trans (congrArg some (by kernel_rfl))⟩,
  f47 := Try.func91.trans (congrArg some (by kernel_rfl)),
  f48 := Try.func92.trans (congrArg some (by kernel_rfl)),
  f49 := ⟨Try.f93.name, by decide, Try.func93.trans (congrArg some (by kernel_rfl))⟩,
  f50 := ⟨Try.f94.name, by decide, Try.func94.trans (congrArg some (by kernel_rfl))⟩,
  f57 := ⟨Try.f95.name, by decide, Try.func95.trans (congrArg some (by kernel_rfl))⟩,
  t0 := Try.underlying0,
  a0 := Try.isAgg0,
  z0 := Try.sizeOf0,
  v0 := Try.zeroValue0,
  t3 := Try.underlying3,
  a3 := Try.isAgg3,
  z3 := Try.sizeOf3,
  v3 := Try.zeroValue3,
  t4 := Try.underlying4,
  a4 := Try.isAgg4,
  z4 := Try.sizeOf4,
  v4 := Try.zeroValue4,
  t5 := Try.underlying5,
  a5 := Try.isAgg5,
  z5 := Try.sizeOf5,
  v5 := Try.zeroValue5,
  t9 := Try.underlying9,
  a9 := Try.isAgg9,
  z9 := Try.sizeOf9,
  v9 := Try.zeroValue9,
  t22 := Try.underlying31,
  a22 := Try.isAgg31,
  z22 := Try.sizeOf31,
  v22 := Try.zeroValue31,
  t25 := Try.underlying104,
  a25 := Try.isAgg104,
  z25 := Try.sizeOf104,
  v25 := Try.zeroValue104,
  t39 := Try.underlying116,
  a39 := Try.isAgg116,
  z39 := Try.sizeOf116,
  v39 := Try.zeroValue116,
  t45 := Try.underlying127,
  a45 := Try.isAgg127,
  z45 := Try.sizeOf127,
  v45 := Try.zeroValue127,
  t46 := Try.underlying128,
  a46 := Try.isAgg128,
  z46 := Try.sizeOf128,
  v46 := Try.zeroValue128,
  t50 := Try.underlying132,
  a50 := Try.isAgg132,
  z50 := Try.sizeOf132,
  v50 := Try.zeroValue132,
  t53 := Try.underlying135,
  a53 := Try.isAgg135,
  z53 := Try.sizeOf135,
  v53 := Try.zeroValue135,
  t55 := Try.underlying29,
  a55 := Try.isAgg29,
  z55 := Try.sizeOf29,
  v55 := Try.zeroValue29,
  t66 := Try.underlying138,
  a66 := Try.isAgg138,
  z66 := Try.sizeOf138,
  v66 := Try.zeroValue138,
  t70 := Try.underlying142,
  a70 := Try.isAgg142,
  z70 := Try.sizeOf142,
  v70 := Try.zeroValue142,
  t76 := Try.underlying144,
  a76 := Try.isAgg144,
  z76 := Try.sizeOf144,
  v76 := Try.zeroValue144,
  t77 := Try.underlying145,
  a77 := Try.isAgg145,
  z77 := Try.sizeOf145,
  v77 := Try.zeroValue145 }
end Go.Proofs.Ytdelhikejgoffaa
end
section
set_option linter.unusedVariables false
set_option maxRecDepth 20000
set_option maxHeartbeats 2000000
namespace Go.Proofs.Ytdelhikejgoffaa
open Go.Shelf Go.RowKit Go.Lib Go.Sort
def cmpCa (a b : Ca) : Int := orL [cmpI (a.dl : Int) (b.dl : Int), cmpI (a.id : Int) (b.id : Int)]
theorem own_lit2 (o : Nat) (a b : Int) : Own (some o) 2 2 1 (ivs [a, b]) [] := ⟨rfl, rfl, Nat.le_refl _, by decide, fun e => by cases e⟩
theorem ccmp_ok (a b : Ca) : Spec Try.prog 55 [caV a, caV b] [] (fun r H' => r = .int .i64 (cmpCa a b) ∧ H' = []) := by
  refine Spec.of (E := [(0, caV a), (1, caV b)]) Try.func55 rfl (by kernel_rfl) Try.ntmps55 rfl rfl (fun w => ?_)
  refine WC_seq ?_
  refine WC_region ?_
  refine WL_do rfl rfl rfl (D_box (cs := [_, _]) rfl rfl rfl) ?_
  rintro _ _ ⟨b1, rfl, rfl⟩
  refine WL_do rfl rfl rfl (D_box (cs := [_, _]) rfl rfl rfl) ?_
  rintro _ _ ⟨b2, rfl, rfl⟩
  refine WL_val rfl rfl rfl (R_assign rfl rfl) ?_
  refine WL_nil ?_
  refine WQ_code ?_
  refine WC_seq ?_
  refine WC_draw _ [(0, true), (1, true), (2, true), (3, true), (4, true), (5, true), (6, true), (7, true), (8, true), (9, true), (10, false), (11, false), (12, true)] followsMixed rfl rfl (by kernel_rfl) .all ?_
  refine WM_val rfl rfl rfl rfl (R_fieldAddr rfl fa78_1 rfl) ?_
  refine WM_val rfl rfl rfl rfl (R_load rfl sc30 rfl (mmY) rfl) ?_
  refine WM_val rfl rfl rfl rfl (R_fieldAddr rfl fa78_1 rfl) ?_
  refine WM_val rfl rfl rfl rfl (R_load rfl sc30 rfl (mmY) rfl) ?_
  refine WM_call rfl (Spec.quiet (cmpt_ok _ _)) rfl rfl rfl rfl rfl rfl rfl (pqY) ?_
  refine WM_val rfl rfl rfl rfl (R_fieldAddr rfl fa78_0 rfl) ?_
  refine WM_val rfl rfl rfl rfl (R_load rfl sc3 rfl (mmY) rfl) ?_
  refine WM_val rfl rfl rfl rfl (R_fieldAddr rfl fa78_0 rfl) ?_
  refine WM_val rfl rfl rfl rfl (R_load rfl sc3 rfl (mmY) rfl) ?_
  refine WM_call rfl (Spec.quiet (cmpi_ok _ _)) rfl rfl rfl rfl rfl rfl rfl (pqY) ?_
  refine WM_do rfl rfl rfl rfl (D_buildSlice rfl si36 rfl rfl rfl) ?_
  rintro _ _ ⟨b3, rfl, rfl⟩
  refine ⟨⟨_, pqY⟩, ?_⟩
  refine WM_do rfl rfl rfl rfl (D_call (cor_ok [cmpI (a.dl : Int) (b.dl : Int), cmpI (a.id : Int) (b.id : Int)] (Nat.le_of_ble_eq_true rfl) _ _ [] (own_lit2 _ _ _)) rfl rfl rfl rfl (pqY)) ?_
  rintro _ _ ⟨_, ⟨rfl, rfl⟩, rfl⟩
  refine ⟨⟨_, pqY⟩, ?_⟩
  refine WM_val rfl rfl rfl rfl (R_assign rfl rfl) ?_
  refine WM_nil ?_
  refine WQ_code ?_
  refine WC_ret ?_
  refine WQ_ret rfl rfl (.cons (.tmp rfl) .nil) rfl (by
      exact ⟨rfl, rfl⟩) (pqY)
theorem cmpCa_lt (a b : Ca) : cmpCa a b < 0 ↔ caLt a b := by
  unfold cmpCa orL orL orL cmpI caLt
  repeat' split
  all_goals omega
theorem cmpCa_swo : Go.Sort.SWO (ltOf cmpCa) := by
  refine ⟨fun x => ?_, fun x y z h1 h2 => ?_, fun x y z h1 h2 => ?_⟩
  · simp only [ltOf, decide_eq_false_iff_not, cmpCa_lt]; unfold caLt; omega
  · simp only [ltOf, decide_eq_true_eq, cmpCa_lt] at *; exact caLt_tr h1 h2
  · simp only [ltOf, decide_eq_false_iff_not, cmpCa_lt] at *
    unfold caLt at *; omega
theorem csort_ok : CSortOk := by
  intro l hl ob c tl own
  haveI : Inhabited Ca := ⟨⟨0, 0⟩⟩
  cases ob with
  | none =>
    obtain ⟨h0, rfl, h2, rfl⟩ := own.void'
    have hl0 : l = [] := List.eq_nil_of_length_eq_zero h0
    subst hl0
    refine (fr_app (sort_none lysC 54 rfl (Enters.mk Try.func54 rfl rfl) none 0 (.func (.func 55) #[] #[])) [⟨none, cl [] 78⟩]).mono fun r H' ⟨H1, ⟨e1, e2⟩, e3⟩ => ⟨[], e1, .refl _, .nil, ?_⟩
    subst e2; exact e3
  | some b =>
    refine (sortK_ok (enc := encC) (k := 2) lysC 54 rfl (fun w => (ag78 w).1) (fun w => (ag78 w).2) encC2 (fun x v hv => ?_) cmpCa cmpCa_swo 55 [] [] (fun x y => ccmp_ok x y) (Enters.mk Try.func54 rfl rfl) b l.length c 78 l tl rfl (by omega)).mono fun r H' ⟨d', e1, e2, e3, e4⟩ => ⟨d', e1, e2, ?_, e4⟩
    · simp only [encC, List.mem_cons, List.not_mem_nil, or_false] at hv
      rcases hv with rfl | rfl <;> rfl
    · refine e3.imp fun {a b} h => ?_
      simpa only [ltOf, decide_eq_false_iff_not, cmpCa_lt] using h
end Go.Proofs.Ytdelhikejgoffaa
end
section
set_option linter.unusedVariables false
set_option maxRecDepth 20000
set_option maxHeartbeats 2000000
namespace Go.Proofs.Ytdelhikejgoffaa
theorem pp1 (a b c d e : Ent) (F : Heap) : (a :: b :: c :: d :: e :: F : Heap).Perm ([e, c, d, b, a] ++ [] ++ F) := by
  have h1 : (a :: b :: c :: d :: e :: F : Heap) = [a, b, c, d, e] ++ F := rfl
  have h2 : ([e, c, d, b, a] ++ [] ++ F : Heap) = [e, c, d, b, a] ++ F := rfl
  rw [h1, h2]
  refine List.Perm.append_right F ?_
  exact ((List.reverse_perm [a, b, c, d, e]).symm.trans (.cons _ (.swap ..)))
def cH (g : CG) : Heap := clH g.m g.x
def sH (g : SG) : Heap := svH g.m g.x
structure CGd (g : CG) (p : Nat) (v : PC) : Prop where
  is : ClIs g.m g.x
  p : g.m.p = p
  v : g.x.v = v
structure SGd (g : SG) (p : Nat) (v : PV) : Prop where
  is : SvIs g.m g.x
  p : g.m.p = p
  v : g.x.v = v
section
variable {g : CG} {p : Nat} {v : PC} (hg : CGd g p v) (hb : PCB v)
include hg hb
theorem k_call {body : Bs} {oa : Option Addr} {ent : Ent} {c : Nat} (hr : RdB oa ent body) (dl : Nat) (hdl : dl ≤ 18446744073709551615) : Spec Try.prog 15 [ptrC p, .slice oa body.length c, .int .u64 (dl : Int)] (cH g ++ [ent]) (fun r H' => ∃ g', CGd g' p (v.call body dl).1 ∧ r = .tuple #[.int .i64 (v.call body dl).2.1, .int .i64 (v.call body dl).2.2] ∧ H' = cH g' ++ [ent]) := by
  obtain ⟨h, rfl, rfl⟩ := hg
  exact (call_ok h hb.cl hr dl hdl).mono (by rintro r H' ⟨m', x', e1, e2, e3, e4, e5⟩; exact ⟨⟨m', x'⟩, ⟨e2, e1, e3⟩, e4, e5⟩)
theorem k_cancel (id : Int) : Spec Try.prog 9 [ptrC p, .int .i64 id] (cH g) (fun r H' => ∃ g', CGd g' p (v.cancel id).1 ∧ r = .int .i64 (v.cancel id).2 ∧ H' = cH g') := by
  obtain ⟨h, rfl, rfl⟩ := hg
  exact (cancel_ok csort_ok h hb.cl id).mono (by rintro r H' ⟨m', x', e1, e2, e3, e4, e5⟩; exact ⟨⟨m', x'⟩, ⟨e2, e1, e3⟩, e4, e5⟩)
theorem k_adv (now : Nat) : Spec Try.prog 16 [ptrC p, .int .u64 (now : Int)] (cH g) (fun r H' => ∃ g', CGd g' p (v.advance now).1 ∧ r = .int .i64 (v.advance now).2 ∧ H' = cH g') := by
  obtain ⟨h, rfl, rfl⟩ := hg
  exact (advance_ok csort_ok h hb.cl now).mono (by rintro r H' ⟨m', x', e1, e2, e3, e4, e5⟩; exact ⟨⟨m', x'⟩, ⟨e2, e1, e3⟩, e4, e5⟩)
theorem k_close : Spec Try.prog 14 [ptrC p] (cH g) (fun r H' => ∃ g', CGd g' p v.close.1 ∧ r = .int .i64 v.close.2 ∧ H' = cH g') := by
  obtain ⟨h, rfl, rfl⟩ := hg
  exact (close_ok csort_ok h hb.cl).mono (by rintro r H' ⟨m', x', e1, e2, e3, e4, e5⟩; exact ⟨⟨m', x'⟩, ⟨e2, e1, e3⟩, e4, e5⟩)
theorem k_recv {l : Bs} {oa : Option Addr} {ent : Ent} {c0 : Nat} (hr : RdB oa ent l) (hl : l.length ≤ 65536) : Spec Try.prog 21 [ptrC p, .slice oa l.length c0] (cH g ++ [ent]) (fun r H' => ∃ g', CGd g' p (v.recv l).1 ∧ r = .int .i64 (v.recv l).2 ∧ H' = cH g' ++ [ent]) := by
  obtain ⟨h, rfl, rfl⟩ := hg
  exact (recv_ok csort_ok h hb.cl hr hl).mono (by rintro r H' ⟨m', x', e1, e2, e3, e4, e5⟩; exact ⟨⟨m', x'⟩, ⟨e2, e1, e3⟩, e4, e5⟩)
theorem k_next0 (he : v.res = []) : Spec Try.prog 22 [ptrC p] (cH g) (fun r H' => ∃ g', CGd g' p v ∧ r = .tuple #[.agg #[.int .i64 0, .int .i64 0, .slice none 0 0], .bool false] ∧ H' = cH g') := by
  obtain ⟨h, rfl, rfl⟩ := hg
  exact (next_empty h hb.cl (by simpa [Cl.v] using he)).mono (by rintro r H' ⟨m', x', e1, e2, e3, e4, e5⟩; exact ⟨⟨m', x'⟩, ⟨e2, e1, e3⟩, e4, e5⟩)
theorem k_next1 {rr : Res} {rest : List Res} (he : v.res = rr :: rest) : Spec Try.prog 22 [ptrC p] (cH g) (fun r H' => ∃ g' o c tl, CGd g' p { v with res := rest } ∧ Own o rr.body.length c 1 (bvs rr.body) tl ∧ r = .tuple #[.agg #[.int .i64 rr.id, .int .i64 rr.code, slV o rr.body.length c], .bool true] ∧ H' = cH g' ++ [⟨o, cl (bvs rr.body ++ tl) 5⟩]) := by
  obtain ⟨h, rfl, rfl⟩ := hg
  have he : g.x.res.map Rs.v = rr :: rest := he
  obtain ⟨r0, rs, e0, e1, e2⟩ := List.map_eq_cons_iff.1 he
  subst e1; subst e2
  exact (next_take h hb.cl r0 rs e0).mono (by rintro r H' ⟨m', x', e1, e2, e3, e4, e5⟩; exact ⟨⟨m', x'⟩, r0.o, r0.c, r0.tl, ⟨e2, e1, e3⟩, h.rO r0 (by rw [e0]; exact List.mem_cons_self ..), e4, e5⟩)
theorem k_out1 (n : Nat) (hn : n ≤ 65536) : Spec Try.prog 12 [ptrC p, .int .i64 (n : Int)] (cH g) (fun r H' => ∃ g' o c tl, CGd g' p { v with out := v.out.drop n } ∧ Own o (v.out.take n).length c 1 (bvs (v.out.take n)) tl ∧ r = .tuple #[slV o (v.out.take n).length c, .int .i64 0] ∧ H' = cH g' ++ [⟨o, cl (bvs (v.out.take n) ++ tl) 5⟩]) := by
  obtain ⟨h, rfl, rfl⟩ := hg
  exact (out_do h hb.cl n hn).mono (by rintro r H' ⟨o, c2, tl2, m', x', e1, e2, e3, e4, e5, e6⟩; exact ⟨⟨m', x'⟩, o, c2, tl2, ⟨e2, e1, e3⟩, e5, e4, e6⟩)
theorem k_open : Spec Try.prog 23 [ptrC p] (cH g) (fun r H' => ∃ o c tl, r = slV o (v.calls.map fun c => (c.id : Int)).length c ∧ Own o (v.calls.map fun c => (c.id : Int)).length c 1 (ivs (v.calls.map fun c => (c.id : Int))) tl ∧ H' = cH g ++ [⟨o, cl (ivs (v.calls.map fun c => (c.id : Int)) ++ tl) 3⟩]) := by
  obtain ⟨h, rfl, rfl⟩ := hg
  exact open_ok h hb.cl
end
section
variable {g : SG} {p : Nat} {v : PV} (hg : SGd g p v) (hb : PVB v)
include hg hb
theorem s_recv {l : Bs} {oa : Option Addr} {ent : Ent} {c0 : Nat} (hr : RdB oa ent l) (hl : l.length ≤ 65536) : Spec Try.prog 19 [ptrC p, .slice oa l.length c0] (sH g ++ [ent]) (fun r H' => ∃ g', SGd g' p (v.recv l).1 ∧ r = .int .i64 (v.recv l).2 ∧ H' = sH g' ++ [ent]) := by
  obtain ⟨h, rfl, rfl⟩ := hg
  exact (srecv_ok h hb.cl hr hl).mono (by rintro r H' ⟨m', x', e1, e2, e3, e4, e5⟩; exact ⟨⟨m', x'⟩, ⟨e2, e1, e3⟩, e4, e5⟩)
theorem s_reply (id code : Int) {body : Bs} {oa : Option Addr} {ent : Ent} {c : Nat} (hr : RdB oa ent body) (hbl : body.length ≤ 1000000) : Spec Try.prog 18 [ptrC p, .int .i64 id, .int .i64 code, .slice oa body.length c] (sH g ++ [ent]) (fun r H' => ∃ g', SGd g' p (v.reply id code body).1 ∧ r = .int .i64 (v.reply id code body).2 ∧ H' = sH g' ++ [ent]) := by
  obtain ⟨h, rfl, rfl⟩ := hg
  exact (reply_ok h hb.cl id code hr hbl).mono (by rintro r H' ⟨m', x', e1, e2, e3, e4, e5⟩; exact ⟨⟨m', x'⟩, ⟨e2, e1, e3⟩, e4, e5⟩)
theorem s_next0 (he : v.qu = []) : Spec Try.prog 17 [ptrC p] (sH g) (fun r H' => ∃ g', SGd g' p v ∧ r = .tuple #[.agg #[.int .i64 0, .int .u64 0, .slice none 0 0], .bool false] ∧ H' = sH g') := by
  obtain ⟨h, rfl, rfl⟩ := hg
  exact (snext_empty h hb.cl (by simpa [Sv.v] using he)).mono (by rintro r H' ⟨m', x', e1, e2, e3, e4, e5⟩; exact ⟨⟨m', x'⟩, ⟨e2, e1, e3⟩, e4, e5⟩)
theorem s_next1 {rr : Rr} {rest : List Rr} (he : v.qu = rr :: rest) : Spec Try.prog 17 [ptrC p] (sH g) (fun r H' => ∃ g' o c tl, SGd g' p { v with qu := rest } ∧ Own o rr.body.length c 1 (bvs rr.body) tl ∧ r = .tuple #[.agg #[.int .i64 rr.id, .int .u64 (rr.dl : Int), slV o rr.body.length c], .bool true] ∧ H' = sH g' ++ [⟨o, cl (bvs rr.body ++ tl) 5⟩]) := by
  obtain ⟨h, rfl, rfl⟩ := hg
  have he : g.x.qu.map Rq.v = rr :: rest := he
  obtain ⟨r0, rs, e0, e1, e2⟩ := List.map_eq_cons_iff.1 he
  subst e1; subst e2
  exact (snext_take h hb.cl r0 rs e0).mono (by rintro r H' ⟨m', x', e1, e2, e3, e4, e5⟩; exact ⟨⟨m', x'⟩, r0.o, r0.c, r0.tl, ⟨e2, e1, e3⟩, h.rO r0 (by rw [e0]; exact List.mem_cons_self ..), e4, e5⟩)
theorem s_out1 (n : Nat) (hn : n ≤ 65536) : Spec Try.prog 20 [ptrC p, .int .i64 (n : Int)] (sH g) (fun r H' => ∃ g' o c tl, SGd g' p { v with out := v.out.drop n } ∧ Own o (v.out.take n).length c 1 (bvs (v.out.take n)) tl ∧ r = .tuple #[slV o (v.out.take n).length c, .int .i64 0] ∧ H' = sH g' ++ [⟨o, cl (bvs (v.out.take n) ++ tl) 5⟩]) := by
  obtain ⟨h, rfl, rfl⟩ := hg
  exact (sout_do h hb.cl n hn).mono (by rintro r H' ⟨o, c2, tl2, m', x', e1, e2, e3, e4, e5, e6⟩; exact ⟨⟨m', x'⟩, o, c2, tl2, ⟨e2, e1, e3⟩, e5, e4, e6⟩)
theorem s_open : Spec Try.prog 8 [ptrC p] (sH g) (fun r H' => ∃ o c tl, r = slV o v.opn.length c ∧ Own o v.opn.length c 1 (ivs v.opn) tl ∧ H' = sH g ++ [⟨o, cl (ivs v.opn ++ tl) 3⟩]) := by
  obtain ⟨h, rfl, rfl⟩ := hg
  exact sopen_ok h hb.cl
end
def pc0 : PC := ⟨[], [], 0, 0, 0, 0, [], [], false⟩
def pv0 : PV := ⟨[], [], 0, 0, 0, [], []⟩
/-- A new client. -/
theorem c_new (p : Nat) : ∃ g, CGd g p pc0 ∧ ∀ F : Heap, ∀ H0 w0 w, HW H0 w0 (⟨some p, cl [.slice none 0 0, .slice none 0 0, .int .i64 0, .int .i64 0, .int .i64 0, .int .u64 0, .slice none 0 0, .slice none 0 0, .bool false] 34⟩ :: F) w → HW H0 w0 (cH g ++ F) w := by
  refine ⟨⟨⟨p, ⟨none, 0, 0, [], [], none, 0, 0, [], []⟩, none, 0, [], none, 0, 0, [], []⟩, ⟨⟨[], [], 0, 0, 0⟩, 0, [], [], false⟩⟩, ⟨⟨⟨OwnS.empty 1, OwnS.empty 1⟩, Own.empty 2, OwnS.empty 3, fun r hr => by cases hr⟩, rfl, rfl⟩, fun F H0 w0 w h => ?_⟩
  have h1 := (((h.addNone 5).addNone 5).addNone 78).addNone 66
  exact h1.perm (pp1 _ _ _ _ _ F)
theorem s_new (p : Nat) : ∃ g, SGd g p pv0 ∧ ∀ F : Heap, ∀ H0 w0 w, HW H0 w0 (⟨some p, cl [.slice none 0 0, .slice none 0 0, .int .i64 0, .int .i64 0, .int .i64 0, .slice none 0 0, .slice none 0 0] 39⟩ :: F) w → HW H0 w0 (sH g ++ F) w := by
  refine ⟨⟨⟨p, ⟨none, 0, 0, [], [], none, 0, 0, [], []⟩, none, 0, [], none, 0, 0, [], []⟩, ⟨⟨[], [], 0, 0, 0⟩, [], []⟩⟩, ⟨⟨⟨OwnS.empty 1, OwnS.empty 1⟩, Own.empty 1, OwnS.empty 3, fun r hr => by cases hr⟩, rfl, rfl⟩, fun F H0 w0 w h => ?_⟩
  have h1 := (((h.addNone 5).addNone 5).addNone 3).addNone 60
  exact h1.perm (pp1 _ _ _ _ _ F)
end Go.Proofs.Ytdelhikejgoffaa
end
section
set_option linter.unusedVariables false
set_option maxRecDepth 20000
set_option maxHeartbeats 2000000
namespace Go.Proofs.Ytdelhikejgoffaa
theorem RdB.fr (b e : Nat) (fr : Nat × Nat) (tl : List Value) (l : Bs) : RdB (some ⟨b, 0, none⟩) ⟨some b, .cells (List.toArray (bvs l ++ tl)) e fr⟩ l := fun _ => ⟨b, 0, _, _, fr, rfl, rfl, fun j v hj => by rw [Nat.zero_add, List.getElem?_append_left (List.getElem?_eq_some_iff.1 hj).1]; exact hj⟩
theorem WL_turn {X : Ctx} {ops : Array Oper} {p : Post} {l : List Oper} {E : Env} {H F B : Heap} {a : Ent} (hx : ∀ F : Heap, ∀ H0 w0 w, HW H0 w0 (a :: F) w → HW H0 w0 (B ++ F) w) (q : Pull a H F) (k : WL X ops p l E (B ++ F)) : WL X ops p l E H :=
  fun a w ha hw => k a w ha (hx _ _ _ _ (hw.perm q.perm))
theorem dec_pair {α β : Type} [DecidableEq α] [DecidableEq β] (q : α × β) (a : α) (b : β) : decide (q = (a, b)) = (decide (q.1 = a) && decide (q.2 = b)) := by
  obtain ⟨x, y⟩ := q
  by_cases h1 : x = a <;> by_cases h2 : y = b <;> simp [h1, h2]
theorem byt_mk (l : Bs) : byt ⟨l.toArray⟩ = l := by simp [byt]
def PC.ends (x : PC) (id code : Int) (b : Bs) : Bool := match x.res with
  | [] => false
  | r :: _ => decide (r.id = id) && (decide (r.code = code) && decide (r.body = b))
def PV.asks (x : PV) (id : Int) (dl : Nat) (b : Bs) : Bool := match x.qu with
  | [] => false
  | r :: _ => decide (r.id = id) && (decide (r.dl = dl) && decide (r.body = b))
theorem calls_ok {g : CG} {p : Nat} {v : PC} (hg : CGd g p v) (hb : PCB v) (s : ByteArray) (dl : Nat) (hdl : dl ≤ 18446744073709551615) (want no : Int) : Spec Try.prog 6 [ptrC p, .string s, .int .u64 (dl : Int), .int .i64 want, .int .i64 no] (cH g) (fun r H' => ∃ g', CGd g' p (v.call (byt s) dl).1 ∧ r = .bool (decide ((v.call (byt s) dl).2 = (want, no))) ∧ H' = cH g') := by
  rw [dec_pair]
  refine Spec.of (E := [(0, ptrC p), (1, .string s), (2, .int .u64 (dl : Int)), (3, .int .i64 want), (4, .int .i64 no)]) Try.func6 rfl (by kernel_rfl) Try.ntmps6 rfl rfl (fun w => ?_)
  refine WC_seq ?_
  refine WC_region ?_
  refine WL_val rfl rfl rfl (R_assign rfl rfl) ?_
  refine WL_nil ?_
  refine WQ_code ?_
  refine WC_seq ?_
  refine WC_region ?_
  refine WL_val rfl rfl rfl (R_move rfl rfl) ?_
  refine WL_val rfl rfl rfl (R_move rfl rfl) ?_
  refine WL_do rfl rfl rfl (D_strByte rfl Try.underlying9 Try.underlying23 Try.underlying5 rfl) ?_
  rintro _ _ ⟨bB, cB, tB, fB, rfl, rfl⟩
  refine WL_val rfl rfl rfl (R_move rfl rfl) ?_
  refine WL_do rfl rfl rfl (D_call (k_call hg hb (RdB.fr bB _ fB tB (byt s)) dl hdl) rfl rfl rfl rfl (pqD)) ?_
  rintro _ _ ⟨_, ⟨g', hg', rfl, rfl⟩, rfl⟩
  refine WL_val rfl rfl rfl (R_move rfl rfl) ?_
  refine WL_val rfl rfl rfl (R_extract rfl rfl rfl) ?_
  refine WL_val rfl rfl rfl (R_extract rfl rfl rfl) ?_
  refine WL_val rfl rfl rfl (R_assign rfl rfl) ?_
  refine WL_val rfl rfl rfl (R_assign rfl rfl) ?_
  refine WL_nil ?_
  refine WQ_code ?_
  refine WC_seq ?_
  refine WC_region ?_
  refine WL_val rfl rfl rfl (R_move rfl rfl) ?_
  refine WL_val rfl rfl rfl (R_move rfl rfl) ?_
  refine WL_val rfl rfl rfl (R_eql rfl rfl rfl) ?_
  refine WL_val rfl rfl rfl (R_move rfl rfl) ?_
  refine WL_splitD (s := 24) rfl (fun c1 => ?_) (fun c1 => ?_)
  · have hc := c1
    refine WL_val rfl rfl rfl (R_move rfl rfl) ?_
    refine WL_val rfl rfl rfl (R_move rfl rfl) ?_
    refine WL_val rfl rfl rfl (R_eql rfl rfl rfl) ?_
    refine WL_val rfl rfl rfl (R_pickT rfl rfl rfl) ?_
    refine WL_val rfl rfl rfl (R_assign rfl rfl) ?_
    refine WL_nil ?_
    refine WQ_code ?_
    refine WC_ret ?_
    refine WQ_ret rfl rfl (.cons (.tmp rfl) .nil) rfl (by
        exact ⟨g', hg', congrArg Value.bool (by simp [hc]), rfl⟩) (pqD)
  · have hc := c1
    refine WL_skip rfl rfl rfl ?_
    refine WL_skip rfl rfl rfl ?_
    refine WL_skip rfl rfl rfl ?_
    refine WL_val rfl rfl rfl (R_pickF rfl rfl rfl) ?_
    refine WL_val rfl rfl rfl (R_assign rfl rfl) ?_
    refine WL_nil ?_
    refine WQ_code ?_
    refine WC_ret ?_
    refine WQ_ret rfl rfl (.cons (.tmp rfl) .nil) rfl (by
        exact ⟨g', hg', congrArg Value.bool (by simp [hc]), rfl⟩) (pqD)
theorem up_ok {g : CG} {p : Nat} {v : PC} (hg : CGd g p v) (hb : PCB v) {g2 : SG} {p2 : Nat} {u : PV} (hg2 : SGd g2 p2 u) (hb2 : PVB u) : Spec Try.prog 7 [ptrC p, ptrC p2] (cH g ++ sH g2)
    (fun r H' => ∃ g' g2', CGd g' p { v with out := v.out.drop 65536 } ∧ SGd g2' p2 (u.recv (v.out.take 65536)).1 ∧ r = .bool (decide ((u.recv (v.out.take 65536)).2 = 0)) ∧ H' = cH g' ++ sH g2') := by
  refine Spec.of (E := [(0, ptrC p), (1, ptrC p2)]) Try.func7 rfl (by kernel_rfl) Try.ntmps7 rfl rfl (fun w => ?_)
  refine WC_seq ?_
  refine WC_region ?_
  refine WL_val rfl rfl rfl (R_assign rfl rfl) ?_
  refine WL_nil ?_
  refine WQ_code ?_
  refine WC_seq ?_
  refine WC_region ?_
  refine WL_val rfl rfl rfl (R_move rfl rfl) ?_
  refine WL_do rfl rfl rfl (D_call (k_out1 hg hb 65536 (by omega)) rfl rfl rfl rfl (pqD)) ?_
  rintro _ _ ⟨_, ⟨g', o9, c9, tl9, hg', own9, rfl, rfl⟩, rfl⟩
  refine WL_val rfl rfl rfl (R_move rfl rfl) ?_
  refine WL_val rfl rfl rfl (R_extract rfl rfl rfl) ?_
  refine WL_val rfl rfl rfl (R_extract rfl rfl rfl) ?_
  refine WL_val rfl rfl rfl (R_assign rfl rfl) ?_
  refine WL_val rfl rfl rfl (R_assign rfl rfl) ?_
  refine WL_nil ?_
  refine WQ_code ?_
  refine WC_seq ?_
  refine WC_region ?_
  refine WL_val rfl rfl rfl (R_move rfl rfl) ?_
  refine WL_val rfl rfl rfl (R_eql rfl rfl rfl) ?_
  refine WL_set (s := 13) (v := .bool true) rfl (by rfl) ?_
  refine WL_val rfl rfl rfl (R_move rfl rfl) ?_
  refine WL_val rfl rfl rfl (R_move rfl rfl) ?_
  refine WL_val rfl rfl rfl (R_move rfl rfl) ?_
  refine WL_do rfl rfl rfl (D_call (s_recv hg2 hb2 (RdB.own own9) (by simp; omega)) rfl rfl rfl rfl (pqD)) ?_
  rintro _ _ ⟨_, ⟨g2', hg2', rfl, rfl⟩, rfl⟩
  refine WL_val rfl rfl rfl (R_eql rfl rfl rfl) ?_
  refine WL_val rfl rfl rfl (R_pickT rfl rfl rfl) ?_
  refine WL_val rfl rfl rfl (R_assign rfl rfl) ?_
  refine WL_nil ?_
  refine WQ_code ?_
  refine WC_ret ?_
  refine WQ_ret rfl rfl (.cons (.tmp rfl) .nil) rfl (by
      exact ⟨g', g2', hg', hg2', rfl, rfl⟩) (pqD)
theorem down_ok {g : CG} {p : Nat} {v : PC} (hg : CGd g p v) (hb : PCB v) {g2 : SG} {p2 : Nat} {u : PV} (hg2 : SGd g2 p2 u) (hb2 : PVB u) : Spec Try.prog 11 [ptrC p2, ptrC p] (cH g ++ sH g2)
    (fun r H' => ∃ g' g2', SGd g2' p2 { u with out := u.out.drop 65536 } ∧ CGd g' p (v.recv (u.out.take 65536)).1 ∧ r = .bool (decide ((v.recv (u.out.take 65536)).2 = 0)) ∧ H' = cH g' ++ sH g2') := by
  refine Spec.of (E := [(0, ptrC p2), (1, ptrC p)]) Try.func11 rfl (by kernel_rfl) Try.ntmps11 rfl rfl (fun w => ?_)
  refine WC_seq ?_
  refine WC_region ?_
  refine WL_val rfl rfl rfl (R_assign rfl rfl) ?_
  refine WL_nil ?_
  refine WQ_code ?_
  refine WC_seq ?_
  refine WC_region ?_
  refine WL_val rfl rfl rfl (R_move rfl rfl) ?_
  refine WL_do rfl rfl rfl (D_call (s_out1 hg2 hb2 65536 (by omega)) rfl rfl rfl rfl (pqD)) ?_
  rintro _ _ ⟨_, ⟨g2', o9, c9, tl9, hg2', own9, rfl, rfl⟩, rfl⟩
  refine WL_val rfl rfl rfl (R_move rfl rfl) ?_
  refine WL_val rfl rfl rfl (R_extract rfl rfl rfl) ?_
  refine WL_val rfl rfl rfl (R_extract rfl rfl rfl) ?_
  refine WL_val rfl rfl rfl (R_assign rfl rfl) ?_
  refine WL_val rfl rfl rfl (R_assign rfl rfl) ?_
  refine WL_nil ?_
  refine WQ_code ?_
  refine WC_seq ?_
  refine WC_region ?_
  refine WL_val rfl rfl rfl (R_move rfl rfl) ?_
  refine WL_val rfl rfl rfl (R_eql rfl rfl rfl) ?_
  refine WL_set (s := 13) (v := .bool true) rfl (by rfl) ?_
  refine WL_val rfl rfl rfl (R_move rfl rfl) ?_
  refine WL_val rfl rfl rfl (R_move rfl rfl) ?_
  refine WL_val rfl rfl rfl (R_move rfl rfl) ?_
  refine WL_do rfl rfl rfl (D_call (k_recv hg hb (RdB.own own9) (by simp; omega)) rfl rfl rfl rfl (pqD)) ?_
  rintro _ _ ⟨_, ⟨g', hg', rfl, rfl⟩, rfl⟩
  refine WL_val rfl rfl rfl (R_eql rfl rfl rfl) ?_
  refine WL_val rfl rfl rfl (R_pickT rfl rfl rfl) ?_
  refine WL_val rfl rfl rfl (R_assign rfl rfl) ?_
  refine WL_nil ?_
  refine WQ_code ?_
  refine WC_ret ?_
  refine WQ_ret rfl rfl (.cons (.tmp rfl) .nil) rfl (by
      exact ⟨g', g2', hg2', hg', rfl, rfl⟩) (pqD)
theorem ends_ok {g : CG} {p : Nat} {v : PC} (hg : CGd g p v) (hb : PCB v) (id code : Int) (s : ByteArray) (hbody : ∀ r ∈ v.res, r.body.length ≤ 1000000) : Spec Try.prog 10 [ptrC p, .int .i64 id, .int .i64 code, .string s] (cH g) (fun r H' => ∃ g', CGd g' p v.next.1 ∧ r = .bool (v.ends id code (byt s)) ∧ H' = cH g') := by
  cases he : v.res with
  | nil =>
    rw [show v.next.1 = v from by unfold PC.next; rw [he], show v.ends id code (byt s) = false from by unfold PC.ends; rw [he]]
    refine Spec.of (E := [(0, ptrC p), (1, .int .i64 id), (2, .int .i64 code), (3, .string s)]) Try.func10 rfl (by kernel_rfl) Try.ntmps10 rfl rfl (fun w => ?_)
    refine WC_seq ?_
    refine WC_region ?_
    refine WL_val rfl rfl rfl (R_assign rfl rfl) ?_
    refine WL_nil ?_
    refine WQ_code ?_
    refine WC_seq ?_
    refine WC_region ?_
    refine WL_val rfl rfl rfl (R_move rfl rfl) ?_
    refine WL_do rfl rfl rfl (D_call (k_next0 hg hb he) rfl rfl rfl rfl (pqD)) ?_
    rintro _ _ ⟨_, ⟨g', hg', rfl, rfl⟩, rfl⟩
    refine WL_val rfl rfl rfl (R_move rfl rfl) ?_
    refine WL_val rfl rfl rfl (R_extract rfl rfl rfl) ?_
    refine WL_val rfl rfl rfl (R_extract rfl rfl rfl) ?_
    refine WL_do rfl rfl rfl (D_alloc rfl zv66) ?_
    rintro _ _ ⟨b1, rfl, rfl⟩
    refine WL_do0 rfl rfl (D_store (vs := [_, _, _]) rfl Try.sizeOf66 rfl rfl rfl rfl rfl (plD) (by exact Nat.le_of_ble_eq_true rfl)) ?_
    rintro _ _ rfl
    refine WL_val rfl rfl rfl (R_assign rfl rfl) ?_
    refine WL_nil ?_
    refine WQ_code ?_
    refine WC_seq ?_
    refine WC_region ?_
    refine WL_val rfl rfl rfl (R_move rfl rfl) ?_
    refine WL_val rfl rfl rfl (R_move rfl rfl) ?_
    refine WL_skip rfl rfl rfl ?_
    refine WL_skip rfl rfl rfl ?_
    refine WL_skip rfl rfl rfl ?_
    refine WL_skip rfl rfl rfl ?_
    refine WL_val rfl rfl rfl (R_pickF rfl rfl rfl) ?_
    refine WL_val rfl rfl rfl (R_move rfl rfl) ?_
    refine WL_skip rfl rfl rfl ?_
    refine WL_skip rfl rfl rfl ?_
    refine WL_skip rfl rfl rfl ?_
    refine WL_skip rfl rfl rfl ?_
    refine WL_val rfl rfl rfl (R_pickF rfl rfl rfl) ?_
    refine WL_val rfl rfl rfl (R_move rfl rfl) ?_
    refine WL_skip rfl rfl rfl ?_
    refine WL_skip rfl rfl rfl ?_
    refine WL_skip rfl rfl rfl ?_
    refine WL_skip rfl rfl rfl ?_
    refine WL_skip rfl rfl rfl ?_
    refine WL_val rfl rfl rfl (R_pickF rfl rfl rfl) ?_
    refine WL_val rfl rfl rfl (R_assign rfl rfl) ?_
    refine WL_nil ?_
    refine WQ_code ?_
    refine WC_ret ?_
    refine WQ_ret rfl rfl (.cons (.tmp rfl) .nil) rfl (by
        exact ⟨g', hg', rfl, rfl⟩) (pqD)
  | cons rr rest =>
    rw [show v.next.1 = { v with res := rest } from by unfold PC.next; rw [he], show v.ends id code (byt s) = (decide (rr.id = id) && (decide (rr.code = code) && decide (rr.body = byt s))) from by unfold PC.ends; rw [he]]
    refine Spec.of (E := [(0, ptrC p), (1, .int .i64 id), (2, .int .i64 code), (3, .string s)]) Try.func10 rfl (by kernel_rfl) Try.ntmps10 rfl rfl (fun w => ?_)
    refine WC_seq ?_
    refine WC_region ?_
    refine WL_val rfl rfl rfl (R_assign rfl rfl) ?_
    refine WL_nil ?_
    refine WQ_code ?_
    refine WC_seq ?_
    refine WC_region ?_
    refine WL_val rfl rfl rfl (R_move rfl rfl) ?_
    refine WL_do rfl rfl rfl (D_call (k_next1 hg hb he) rfl rfl rfl rfl (pqD)) ?_
    rintro _ _ ⟨_, ⟨g', o9, c9, tl9, hg', own9, rfl, rfl⟩, rfl⟩
    refine WL_val rfl rfl rfl (R_move rfl rfl) ?_
    refine WL_val rfl rfl rfl (R_extract rfl rfl rfl) ?_
    refine WL_val rfl rfl rfl (R_extract rfl rfl rfl) ?_
    refine WL_do rfl rfl rfl (D_alloc rfl zv66) ?_
    rintro _ _ ⟨b1, rfl, rfl⟩
    refine WL_do0 rfl rfl (D_store (vs := [_, _, _]) rfl Try.sizeOf66 rfl rfl rfl rfl rfl (plD) (by exact Nat.le_of_ble_eq_true rfl)) ?_
    rintro _ _ rfl
    refine WL_val rfl rfl rfl (R_assign rfl rfl) ?_
    refine WL_nil ?_
    refine WQ_code ?_
    refine WC_seq ?_
    refine WC_region ?_
    refine WL_val rfl rfl rfl (R_move rfl rfl) ?_
    refine WL_val rfl rfl rfl (R_move rfl rfl) ?_
    refine WL_val rfl rfl rfl (R_fieldAddr rfl fa66_0 rfl) ?_
    refine WL_val rfl rfl rfl (R_load rfl sc3 rfl (mmD) rfl) ?_
    refine WL_val rfl rfl rfl (R_move rfl rfl) ?_
    refine WL_val rfl rfl rfl (R_eql rfl rfl rfl) ?_
    refine WL_val rfl rfl rfl (R_pickT rfl rfl rfl) ?_
    refine WL_val rfl rfl rfl (R_move rfl rfl) ?_
    refine WL_splitD (s := 23) rfl (fun c1 => ?_) (fun c1 => ?_)
    · have hc1 := c1
      refine WL_val rfl rfl rfl (R_fieldAddr rfl fa66_1 rfl) ?_
      refine WL_val rfl rfl rfl (R_load rfl sc24 rfl (mmD) rfl) ?_
      refine WL_val rfl rfl rfl (R_move rfl rfl) ?_
      refine WL_val rfl rfl rfl (R_eql rfl rfl rfl) ?_
      refine WL_val rfl rfl rfl (R_pickT rfl rfl rfl) ?_
      refine WL_val rfl rfl rfl (R_move rfl rfl) ?_
      refine WL_splitD (s := 29) rfl (fun c2 => ?_) (fun c2 => ?_)
      · have hc2 := c2
        refine WL_val rfl rfl rfl (R_fieldAddr rfl fa66_2 rfl) ?_
        refine WL_val rfl rfl rfl (R_load rfl sc23 rfl (mmD) rfl) ?_
        refine WL_val rfl rfl rfl (R_byteStr rfl Try.underlying23 Try.underlying5 Try.underlying9 rfl (RdB.own own9) mmD) ?_
        refine WL_val rfl rfl rfl (R_move rfl rfl) ?_
        refine WL_val rfl rfl rfl (R_strEq rfl Try.underlying9 rfl rfl) ?_
        refine WL_val rfl rfl rfl (R_pickT rfl rfl rfl) ?_
        refine WL_val rfl rfl rfl (R_assign rfl rfl) ?_
        refine WL_nil ?_
        refine WQ_code ?_
        refine WC_ret ?_
        refine WQ_ret rfl rfl (.cons (.tmp rfl) .nil) rfl (by
            exact ⟨g', hg', congrArg Value.bool (by simp [byt_mk, *]), rfl⟩) (pqD)
      · have hc2 := c2
        refine WL_skip rfl rfl rfl ?_
        refine WL_skip rfl rfl rfl ?_
        refine WL_skip rfl rfl rfl ?_
        refine WL_skip rfl rfl rfl ?_
        refine WL_skip rfl rfl rfl ?_
        refine WL_val rfl rfl rfl (R_pickF rfl rfl rfl) ?_
        refine WL_val rfl rfl rfl (R_assign rfl rfl) ?_
        refine WL_nil ?_
        refine WQ_code ?_
        refine WC_ret ?_
        refine WQ_ret rfl rfl (.cons (.tmp rfl) .nil) rfl (by
            exact ⟨g', hg', congrArg Value.bool (by simp [*]), rfl⟩) (pqD)
    · have hc1 := c1
      refine WL_skip rfl rfl rfl ?_
      refine WL_skip rfl rfl rfl ?_
      refine WL_skip rfl rfl rfl ?_
      refine WL_skip rfl rfl rfl ?_
      refine WL_val rfl rfl rfl (R_pickF rfl rfl rfl) ?_
      refine WL_val rfl rfl rfl (R_move rfl rfl) ?_
      refine WL_skip rfl rfl rfl ?_
      refine WL_skip rfl rfl rfl ?_
      refine WL_skip rfl rfl rfl ?_
      refine WL_skip rfl rfl rfl ?_
      refine WL_skip rfl rfl rfl ?_
      refine WL_val rfl rfl rfl (R_pickF rfl rfl rfl) ?_
      refine WL_val rfl rfl rfl (R_assign rfl rfl) ?_
      refine WL_nil ?_
      refine WQ_code ?_
      refine WC_ret ?_
      refine WQ_ret rfl rfl (.cons (.tmp rfl) .nil) rfl (by
          exact ⟨g', hg', congrArg Value.bool (by simp [*]), rfl⟩) (pqD)
theorem asks_ok {g : SG} {p : Nat} {u : PV} (hg : SGd g p u) (hb : PVB u) (id : Int) (dl : Nat) (s : ByteArray) : Spec Try.prog 33 [ptrC p, .int .i64 id, .int .u64 (dl : Int), .string s] (sH g) (fun r H' => ∃ g', SGd g' p u.next.1 ∧ r = .bool (u.asks id dl (byt s)) ∧ H' = sH g') := by
  cases he : u.qu with
  | nil =>
    rw [show u.next.1 = u from by unfold PV.next; rw [he], show u.asks id dl (byt s) = false from by unfold PV.asks; rw [he]]
    refine Spec.of (E := [(0, ptrC p), (1, .int .i64 id), (2, .int .u64 (dl : Int)), (3, .string s)]) Try.func33 rfl (by kernel_rfl) Try.ntmps33 rfl rfl (fun w => ?_)
    refine WC_seq ?_
    refine WC_region ?_
    refine WL_val rfl rfl rfl (R_assign rfl rfl) ?_
    refine WL_nil ?_
    refine WQ_code ?_
    refine WC_seq ?_
    refine WC_region ?_
    refine WL_val rfl rfl rfl (R_move rfl rfl) ?_
    refine WL_do rfl rfl rfl (D_call (s_next0 hg hb he) rfl rfl rfl rfl (pqD)) ?_
    rintro _ _ ⟨_, ⟨g', hg', rfl, rfl⟩, rfl⟩
    refine WL_val rfl rfl rfl (R_move rfl rfl) ?_
    refine WL_val rfl rfl rfl (R_extract rfl rfl rfl) ?_
    refine WL_val rfl rfl rfl (R_extract rfl rfl rfl) ?_
    refine WL_do rfl rfl rfl (D_alloc rfl zv60) ?_
    rintro _ _ ⟨b1, rfl, rfl⟩
    refine WL_do0 rfl rfl (D_store (vs := [_, _, _]) rfl Try.sizeOf60 rfl rfl rfl rfl rfl (plD) (by exact Nat.le_of_ble_eq_true rfl)) ?_
    rintro _ _ rfl
    refine WL_val rfl rfl rfl (R_assign rfl rfl) ?_
    refine WL_nil ?_
    refine WQ_code ?_
    refine WC_seq ?_
    refine WC_region ?_
    refine WL_val rfl rfl rfl (R_move rfl rfl) ?_
    refine WL_val rfl rfl rfl (R_move rfl rfl) ?_
    refine WL_skip rfl rfl rfl ?_
    refine WL_skip rfl rfl rfl ?_
    refine WL_skip rfl rfl rfl ?_
    refine WL_skip rfl rfl rfl ?_
    refine WL_val rfl rfl rfl (R_pickF rfl rfl rfl) ?_
    refine WL_val rfl rfl rfl (R_move rfl rfl) ?_
    refine WL_skip rfl rfl rfl ?_
    refine WL_skip rfl rfl rfl ?_
    refine WL_skip rfl rfl rfl ?_
    refine WL_skip rfl rfl rfl ?_
    refine WL_val rfl rfl rfl (R_pickF rfl rfl rfl) ?_
    refine WL_val rfl rfl rfl (R_move rfl rfl) ?_
    refine WL_skip rfl rfl rfl ?_
    refine WL_skip rfl rfl rfl ?_
    refine WL_skip rfl rfl rfl ?_
    refine WL_skip rfl rfl rfl ?_
    refine WL_skip rfl rfl rfl ?_
    refine WL_val rfl rfl rfl (R_pickF rfl rfl rfl) ?_
    refine WL_val rfl rfl rfl (R_assign rfl rfl) ?_
    refine WL_nil ?_
    refine WQ_code ?_
    refine WC_ret ?_
    refine WQ_ret rfl rfl (.cons (.tmp rfl) .nil) rfl (by
        exact ⟨g', hg', rfl, rfl⟩) (pqD)
  | cons rr rest =>
    rw [show u.next.1 = { u with qu := rest } from by unfold PV.next; rw [he], show u.asks id dl (byt s) = (decide (rr.id = id) && (decide (rr.dl = dl) && decide (rr.body = byt s))) from by unfold PV.asks; rw [he]]
    refine Spec.of (E := [(0, ptrC p), (1, .int .i64 id), (2, .int .u64 (dl : Int)), (3, .string s)]) Try.func33 rfl (by kernel_rfl) Try.ntmps33 rfl rfl (fun w => ?_)
    refine WC_seq ?_
    refine WC_region ?_
    refine WL_val rfl rfl rfl (R_assign rfl rfl) ?_
    refine WL_nil ?_
    refine WQ_code ?_
    refine WC_seq ?_
    refine WC_region ?_
    refine WL_val rfl rfl rfl (R_move rfl rfl) ?_
    refine WL_do rfl rfl rfl (D_call (s_next1 hg hb he) rfl rfl rfl rfl (pqD)) ?_
    rintro _ _ ⟨_, ⟨g', o9, c9, tl9, hg', own9, rfl, rfl⟩, rfl⟩
    refine WL_val rfl rfl rfl (R_move rfl rfl) ?_
    refine WL_val rfl rfl rfl (R_extract rfl rfl rfl) ?_
    refine WL_val rfl rfl rfl (R_extract rfl rfl rfl) ?_
    refine WL_do rfl rfl rfl (D_alloc rfl zv60) ?_
    rintro _ _ ⟨b1, rfl, rfl⟩
    refine WL_do0 rfl rfl (D_store (vs := [_, _, _]) rfl Try.sizeOf60 rfl rfl rfl rfl rfl (plD) (by exact Nat.le_of_ble_eq_true rfl)) ?_
    rintro _ _ rfl
    refine WL_val rfl rfl rfl (R_assign rfl rfl) ?_
    refine WL_nil ?_
    refine WQ_code ?_
    refine WC_seq ?_
    refine WC_region ?_
    refine WL_val rfl rfl rfl (R_move rfl rfl) ?_
    refine WL_val rfl rfl rfl (R_move rfl rfl) ?_
    refine WL_val rfl rfl rfl (R_fieldAddr rfl fa60_0 rfl) ?_
    refine WL_val rfl rfl rfl (R_load rfl sc3 rfl (mmD) rfl) ?_
    refine WL_val rfl rfl rfl (R_move rfl rfl) ?_
    refine WL_val rfl rfl rfl (R_eql rfl rfl rfl) ?_
    refine WL_val rfl rfl rfl (R_pickT rfl rfl rfl) ?_
    refine WL_val rfl rfl rfl (R_move rfl rfl) ?_
    refine WL_splitD (s := 23) rfl (fun c1 => ?_) (fun c1 => ?_)
    · have hc1 := c1
      refine WL_val rfl rfl rfl (R_fieldAddr rfl fa60_1 rfl) ?_
      refine WL_val rfl rfl rfl (R_load rfl sc30 rfl (mmD) rfl) ?_
      refine WL_val rfl rfl rfl (R_move rfl rfl) ?_
      refine WL_val rfl rfl rfl (R_eql rfl rfl rfl) ?_
      refine WL_val rfl rfl rfl (R_pickT rfl rfl rfl) ?_
      refine WL_val rfl rfl rfl (R_move rfl rfl) ?_
      refine WL_splitD (s := 29) rfl (fun c2 => ?_) (fun c2 => ?_)
      · have hc2 : rr.dl = dl := by have := c2; omega
        refine WL_val rfl rfl rfl (R_fieldAddr rfl fa60_2 rfl) ?_
        refine WL_val rfl rfl rfl (R_load rfl sc23 rfl (mmD) rfl) ?_
        refine WL_val rfl rfl rfl (R_byteStr rfl Try.underlying23 Try.underlying5 Try.underlying9 rfl (RdB.own own9) mmD) ?_
        refine WL_val rfl rfl rfl (R_move rfl rfl) ?_
        refine WL_val rfl rfl rfl (R_strEq rfl Try.underlying9 rfl rfl) ?_
        refine WL_val rfl rfl rfl (R_pickT rfl rfl rfl) ?_
        refine WL_val rfl rfl rfl (R_assign rfl rfl) ?_
        refine WL_nil ?_
        refine WQ_code ?_
        refine WC_ret ?_
        refine WQ_ret rfl rfl (.cons (.tmp rfl) .nil) rfl (by
            exact ⟨g', hg', congrArg Value.bool (by simp [byt_mk, *]), rfl⟩) (pqD)
      · have hc2 : ¬ rr.dl = dl := by have := c2; omega
        refine WL_skip rfl rfl rfl ?_
        refine WL_skip rfl rfl rfl ?_
        refine WL_skip rfl rfl rfl ?_
        refine WL_skip rfl rfl rfl ?_
        refine WL_skip rfl rfl rfl ?_
        refine WL_val rfl rfl rfl (R_pickF rfl rfl rfl) ?_
        refine WL_val rfl rfl rfl (R_assign rfl rfl) ?_
        refine WL_nil ?_
        refine WQ_code ?_
        refine WC_ret ?_
        refine WQ_ret rfl rfl (.cons (.tmp rfl) .nil) rfl (by
            exact ⟨g', hg', congrArg Value.bool (by simp [*]), rfl⟩) (pqD)
    · have hc1 := c1
      refine WL_skip rfl rfl rfl ?_
      refine WL_skip rfl rfl rfl ?_
      refine WL_skip rfl rfl rfl ?_
      refine WL_skip rfl rfl rfl ?_
      refine WL_val rfl rfl rfl (R_pickF rfl rfl rfl) ?_
      refine WL_val rfl rfl rfl (R_move rfl rfl) ?_
      refine WL_skip rfl rfl rfl ?_
      refine WL_skip rfl rfl rfl ?_
      refine WL_skip rfl rfl rfl ?_
      refine WL_skip rfl rfl rfl ?_
      refine WL_skip rfl rfl rfl ?_
      refine WL_val rfl rfl rfl (R_pickF rfl rfl rfl) ?_
      refine WL_val rfl rfl rfl (R_assign rfl rfl) ?_
      refine WL_nil ?_
      refine WQ_code ?_
      refine WC_ret ?_
      refine WQ_ret rfl rfl (.cons (.tmp rfl) .nil) rfl (by
          exact ⟨g', hg', congrArg Value.bool (by simp [*]), rfl⟩) (pqD)
end Go.Proofs.Ytdelhikejgoffaa
end
section
set_option linter.unusedVariables false
set_option maxRecDepth 20000
namespace Go.Proofs.Ytdelhikejgoffaa
open Go.ChangeShapes Go.WideShapes Go.ChangeAt Go.RowKit Go.Joins Go.Deep
theorem decB {H : Type} {enc : TypeId × Value → H} {W : World} {sp : Nat → Bool} {held : Bool} (m : Nat) (cs : List Value) (y : DataW H × List MemPlace) (h : DataW.trod enc Try.prog W 0 sp held m 5 cs = some y) : ∃ x : UInt8, cs = encY x ∧ True := by
  obtain ⟨n, rfl, _, w⟩ := DataW.trod_int Try.underlying5 h
  obtain ⟨k, rfl, hk⟩ := wf_u8 w
  exact ⟨UInt8.ofNat k, by show [Value.int .u8 (k : Int)] = [Value.int .u8 ((UInt8.ofNat k).toNat : Int)]; rw [UInt8.toNat_ofNat', Nat.mod_eq_of_lt hk], trivial⟩
theorem RdB.arg {oa : Option Addr} {x : Ent} {l : Bs} (h : Arg oa x 1 encY l) : RdB oa x l := fun hl => by
  rcases h with ⟨h, _⟩ | ⟨b, k, cs, e, fr, h1, h2, h3⟩
  · rw [h] at hl; exact absurd hl (by simp)
  · refine ⟨b, k, cs, e, fr, h1, h2, fun j v hj => ?_⟩
    have hlt := (List.getElem?_eq_some_iff.1 hj).1
    rw [bvs_len] at hlt
    obtain ⟨y, hy⟩ : ∃ y, l[j]? = some y := ⟨_, List.getElem?_eq_getElem hlt⟩
    rw [bvs_get hy] at hj
    have := h3 j y hy 0 v (by simpa using hj)
    rwa [Nat.mul_one, Nat.add_zero] at this
end Go.Proofs.Ytdelhikejgoffaa
end
section
set_option linter.unusedVariables false
set_option maxRecDepth 20000
set_option maxHeartbeats 2000000
namespace Go.Proofs.Ytdelhikejgoffaa
structure Fr where
  k : UInt8
  b : Bs
def encA (L : List Fr) : Bs := L.flatMap fun f => encF f.k f.b
theorem encA_cons (f : Fr) (L : List Fr) : encA (f :: L) = encF f.k f.b ++ encA L := rfl
theorem encA_app (A B : List Fr) : encA (A ++ B) = encA A ++ encA B := List.flatMap_append
theorem encA_one (f : Fr) : encA [f] = encF f.k f.b := by simp [encA]
theorem encF_shape (k : UInt8) (b rest : Bs) : encF k b ++ rest = 197 :: k :: UInt8.ofNat (b.length / 256) :: UInt8.ofNat b.length :: (b ++ (twoB (sumB (innF k b)) ++ rest)) := by simp [encF, innF, twoB]
theorem u8_hi {n : Nat} (h : n < 65536) : (UInt8.ofNat (n / 256)).toNat * 256 + (UInt8.ofNat n).toNat = n := by rw [UInt8.toNat_ofNat', UInt8.toNat_ofNat']; omega
theorem nxt_enc (k : UInt8) (b rest : Bs) (hb : b.length ≤ 1024) : nxt (encF k b ++ rest) = .got k b (b.length + 6) := by
  have hs := encF_shape k b rest
  have hlen : (encF k b ++ rest).length = b.length + 6 + rest.length := by rw [List.length_append, encF_len]
  have hx0 : (encF k b ++ rest)[0]? = some 197 := by rw [hs]; rfl
  have hx2 : (encF k b ++ rest)[2]? = some (UInt8.ofNat (b.length / 256)) := by rw [hs]; rfl
  have hx3 : (encF k b ++ rest)[3]? = some (UInt8.ofNat b.length) := by rw [hs]; rfl
  have hl : lngB (encF k b ++ rest) = b.length := by rw [lngB_of hx2 hx3]; exact u8_hi (by omega)
  rw [nxt_five (by omega) hx0 rfl (by omega), hl, if_neg (by omega), if_neg (by omega)]
  have h1 : ((encF k b ++ rest).drop 1).take (3 + b.length) = innF k b := by
    rw [show (encF k b ++ rest).drop 1 = innF k b ++ (twoB (sumB (innF k b)) ++ rest) from by rw [hs]; simp [innF, twoB]]
    exact List.take_left' (by rw [innF_len]; omega)
  have h4 : (encF k b ++ rest).drop 4 = b ++ (twoB (sumB (innF k b)) ++ rest) := by rw [hs]; rfl
  have h2 : ((encF k b ++ rest).drop (4 + b.length)).take 2 = twoB (sumB (innF k b)) := by
    rw [← List.drop_drop, h4, List.drop_left]
    exact List.take_left' (by simp [twoB])
  rw [h1, h2, if_neg (by simp), h4, List.take_left]
  rw [hs]; rfl
theorem nxt_pre {k : UInt8} {b rest p q : Bs} (hp : p ++ q = encF k b ++ rest) (hlen : p.length < b.length + 6) (hb : b.length ≤ 1024) : nxt p = .wait := by
  have hs := encF_shape k b rest
  have hget : ∀ i, i < p.length → p[i]? = (encF k b ++ rest)[i]? := fun i hi => by rw [← hp, List.getElem?_append_left hi]
  by_cases h0 : p.length = 0
  · exact nxt_nil h0
  have hx0 : p[0]? = some 197 := by rw [hget 0 (by omega), hs]; rfl
  by_cases h4 : p.length < 4
  · exact nxt_four h0 hx0 rfl h4
  have hx2 : p[2]? = some (UInt8.ofNat (b.length / 256)) := by rw [hget 2 (by omega), hs]; rfl
  have hx3 : p[3]? = some (UInt8.ofNat b.length) := by rw [hget 3 (by omega), hs]; rfl
  have hl : lngB p = b.length := by rw [lngB_of hx2 hx3]; exact u8_hi (by omega)
  rw [nxt_five h0 hx0 rfl h4, hl, if_neg (by omega), if_pos (by omega)]
section
variable {Q : Type} (step : Q → UInt8 → Bs → Q × Int)
def runF (q : Q) (A : List Fr) : Q := A.foldl (fun q f => (step q f.k f.b).1) q
def okF : Q → List Fr → Prop
  | _, [] => True
  | q, f :: r => 4 ≤ f.b.length ∧ f.b.length ≤ 1024 ∧ (step q f.k f.b).2 = 0 ∧ okF (step q f.k f.b).1 r
theorem rcv_run : ∀ (n : Nat) (q : Q) (FS : List Fr) (bs rest : Bs), bs ++ rest = encA FS → okF step q FS → bs.length < n → ∃ A B bs', FS = A ++ B ∧ rcvN step n q bs = (runF step q A, bs', 0, 0) ∧ bs' ++ rest = encA B ∧ bs'.length + (encA A).length = bs.length
  | 0, _, _, _, _, _, _, h => absurd h (Nat.not_lt_zero _)
  | n + 1, q, [], bs, rest, he, _, _ => by
    have h0 : bs = [] := by have := congrArg List.length he; simp [encA] at this; exact this.1
    subst h0
    exact ⟨[], [], [], rfl, rcv_wait (nxt_nil rfl), he, rfl⟩
  | n + 1, q, f :: r, bs, rest, he, hok, hn => by
    obtain ⟨h4, h10, hs, hr⟩ := hok
    rw [encA_cons] at he
    by_cases hlt : bs.length < f.b.length + 6
    · exact ⟨[], f :: r, bs, rfl, rcv_wait (nxt_pre he hlt h10), by rw [encA_cons]; exact he, by simp [encA]⟩
    · have hel := encF_len f.k f.b
      have hbs : bs = encF f.k f.b ++ bs.drop (f.b.length + 6) := by
        have h1 := congrArg (List.take (f.b.length + 6)) he
        rw [List.take_append_of_le_length (by omega), List.take_left' (by omega)] at h1
        conv => lhs; rw [← List.take_append_drop (f.b.length + 6) bs]
        rw [h1]
      have he2 : bs.drop (f.b.length + 6) ++ rest = encA r := by
        rw [hbs, List.append_assoc] at he
        exact List.append_cancel_left he
      have hg : nxt bs = .got f.k f.b (f.b.length + 6) := by rw [hbs]; exact nxt_enc _ _ _ h10
      obtain ⟨A, B, bs', e1, e2, e3, e4⟩ := rcv_run n (step q f.k f.b).1 r (bs.drop (f.b.length + 6)) rest he2 hr (by rw [List.length_drop]; omega)
      refine ⟨f :: A, B, bs', by rw [e1]; rfl, ?_, e3, ?_⟩
      · rw [rcv_ok hg h4 hs, e2]; rfl
      · rw [encA_cons, List.length_append, hel]
        rw [List.length_drop] at e4
        omega
end
theorem val_big4 {n : Nat} (h : n < 4294967296) (r : Bs) : valB ((bigB n 4 ++ r).take 4) = n := by
  rw [List.take_left' (bigB_len n 4)]
  show valB [UInt8.ofNat (n / 16777216), UInt8.ofNat (n / 65536), UInt8.ofNat (n / 256), UInt8.ofNat (n / 1)] = n
  simp only [valB, List.foldl_cons, List.foldl_nil, UInt8.toNat_ofNat']
  omega
theorem val_big2 {n : Nat} (h : n < 65536) (r : Bs) : valB ((bigB n 2 ++ r).take 2) = n := by
  rw [List.take_left' (bigB_len n 2)]
  show valB [UInt8.ofNat (n / 256), UInt8.ofNat (n / 1)] = n
  simp only [valB, List.foldl_cons, List.foldl_nil, UInt8.toNat_ofNat']
  omega
def reqF (id dl : Nat) (bd : Bs) : Fr := ⟨16, bigB id 4 ++ (bigB dl 8 ++ bd)⟩
def canF (id : Nat) : Fr := ⟨18, bigB id 4⟩
def repF (id code : Nat) (bd : Bs) : Fr := ⟨17, bigB id 4 ++ (bigB code 2 ++ bd)⟩
def idsC (cs : List Ca) (rs : List Res) : List Int := cs.map (fun c => (c.id : Int)) ++ rs.map (fun r => r.id)
def OkR (Dn : Nat → Bool) (Rp : Nat → Bs) (r : Res) : Prop := (r.code = 0 ∧ Dn r.id.toNat = true ∧ Rp r.id.toNat = r.body) ∨ (r.body = [] ∧ (r.code = 12 ∨ r.code = 14 ∨ r.code = 7))
structure CI (made : Nat) (R : Nat → Int) (Dn : Nat → Bool) (Rp : Nat → Bs) (cs : List Ca) (rs : List Res) : Prop where
  nd : (idsC cs rs).Nodup
  mem : ∀ i : Nat, ((i : Int) ∈ idsC cs rs ↔ 1 ≤ i ∧ i ≤ made ∧ R i = 0)
  pos : ∀ i ∈ idsC cs rs, 0 ≤ i
  ok : ∀ r ∈ rs, OkR Dn Rp r
  len : cs.length + rs.length ≤ made
  c32 : cs.length ≤ 32
  dl : ∀ c ∈ cs, c.dl ≤ 1000000
theorem flt_perm (q : Ca → Bool) : ∀ l : List Ca, (l.filter (nq q) ++ l.filter q).Perm l
  | [] => .refl _
  | c :: r => by
    by_cases h : q c = true
    · rw [List.filter_cons_of_pos h, List.filter_cons_of_neg (by simp [nq, h])]
      exact List.perm_middle.trans ((flt_perm q r).cons c)
    · rw [List.filter_cons_of_neg h, List.filter_cons_of_pos (by simp [nq, h])]
      exact (flt_perm q r).cons c
theorem ids_end (q : Ca → Bool) (code : Int) (body : Bs) (cs : List Ca) (rs : List Res) : (idsC (cs.filter (nq q)) (rs ++ (overC q code cs).map fun c => ⟨(c.id : Int), code, body⟩)).Perm (idsC cs rs) := by
  unfold idsC
  rw [List.map_append, List.map_map]
  have h1 : ((overC q code cs).map ((fun r : Res => r.id) ∘ fun c : Ca => (⟨(c.id : Int), code, body⟩ : Res))).Perm ((cs.filter q).map fun c => (c.id : Int)) := (overC_perm q code cs).map _
  refine (List.Perm.append_left _ (List.Perm.append_left _ h1)).trans ?_
  have h2 := (flt_perm q cs).map fun c => (c.id : Int)
  rw [List.map_append] at h2
  refine List.Perm.trans ?_ (h2.append_right _)
  rw [List.append_assoc]
  exact List.Perm.append_left _ List.perm_append_comm
theorem CI.endW {made : Nat} {R : Nat → Int} {Dn : Nat → Bool} {Rp : Nat → Bs} {cs : List Ca} {rs : List Res} (h : CI made R Dn Rp cs rs) {q : Ca → Bool} {code : Int} {body : Bs} (hc : ∀ c ∈ cs, q c = true → OkR Dn Rp ⟨(c.id : Int), code, body⟩) :
    CI made R Dn Rp (cs.filter (nq q)) (rs ++ (overC q code cs).map fun c => ⟨(c.id : Int), code, body⟩) := by
  have hp := ids_end q code body cs rs
  refine ⟨hp.nodup_iff.2 h.nd, fun i => by rw [hp.mem_iff]; exact h.mem i, fun i hi => h.pos i (hp.mem_iff.1 hi), fun r hr => ?_, ?_, Nat.le_trans (List.length_filter_le ..) h.c32, fun c hc => h.dl c (List.mem_filter.1 hc).1⟩
  · rcases List.mem_append.1 hr with h1 | h1
    · exact h.ok r h1
    · obtain ⟨c, h2, rfl⟩ := List.mem_map.1 h1
      have h3 := List.mem_filter.1 ((overC_perm q code cs).mem_iff.1 h2)
      exact hc c h3.1 h3.2
  · have h1 := flt_part q cs
    have h2 := (overC_perm q code cs).length_eq
    have h3 := h.len
    rw [List.length_append, List.length_map]
    omega
theorem CI.call {made : Nat} {R : Nat → Int} {Dn : Nat → Bool} {Rp : Nat → Bs} {cs : List Ca} {rs : List Res} (h : CI made R Dn Rp cs rs) (hR : R (made + 1) = 0) {dl : Nat} (hd : dl ≤ 1000000) (h32 : cs.length < 32) : CI (made + 1) R Dn Rp (cs ++ [⟨made + 1, dl⟩]) rs := by
  have hp : (idsC (cs ++ [⟨made + 1, dl⟩]) rs).Perm ((((made + 1 : Nat) : Int)) :: idsC cs rs) := by
    unfold idsC
    rw [List.map_append, List.append_assoc]
    exact List.perm_middle
  refine ⟨hp.nodup_iff.2 (List.nodup_cons.2 ⟨fun hm => ?_, h.nd⟩), fun i => ?_, fun i hi => ?_, h.ok, by have := h.len; simp; omega, by simp; omega, fun c hc => ?_⟩
  · have := (h.mem (made + 1)).1 hm; omega
  · rw [hp.mem_iff, List.mem_cons, h.mem i]
    constructor
    · rintro (e | ⟨e1, e2, e3⟩)
      · have : i = made + 1 := by omega
        subst this
        exact ⟨by omega, by omega, hR⟩
      · exact ⟨e1, by omega, e3⟩
    · rintro ⟨e1, e2, e3⟩
      by_cases e : i = made + 1
      · left; rw [e]
      · right; exact ⟨e1, by omega, e3⟩
  · rcases List.mem_cons.1 (hp.mem_iff.1 hi) with e | e
    · omega
    · exact h.pos i e
  · rcases List.mem_append.1 hc with e | e
    · exact h.dl c e
    · rw [List.mem_singleton.1 e]; exact hd
def updF (R : Nat → Int) (i : Nat) (x : Int) : Nat → Int := fun j => if j = i then x else R j
theorem CI.pop {made : Nat} {R : Nat → Int} {Dn : Nat → Bool} {Rp : Nat → Bs} {cs : List Ca} {r : Res} {rs : List Res} (h : CI made R Dn Rp cs (r :: rs)) : CI made (updF R r.id.toNat 1) Dn Rp cs rs ∧ 1 ≤ r.id ∧ r.id ≤ made ∧ R r.id.toNat = 0 ∧ OkR Dn Rp r := by
  have hp : (idsC cs (r :: rs)).Perm (r.id :: idsC cs rs) := List.perm_middle
  have hm : r.id ∈ idsC cs (r :: rs) := hp.mem_iff.2 (List.mem_cons_self ..)
  have h0 := h.pos _ hm
  obtain ⟨n, hn⟩ : ∃ n : Nat, r.id = n := ⟨r.id.toNat, by omega⟩
  have h1 := (h.mem n).1 (hn ▸ hm)
  have hnd := List.nodup_cons.1 (hp.nodup_iff.1 h.nd)
  refine ⟨⟨hnd.2, fun i => ?_, fun i hi => h.pos i (hp.mem_iff.2 (List.mem_cons_of_mem _ hi)), fun x hx => h.ok x (List.mem_cons_of_mem _ hx), by have := h.len; simp at this; omega, h.c32, h.dl⟩, by omega, by omega, by rw [hn]; exact h1.2.2, h.ok r (List.mem_cons_self ..)⟩
  have h2 := h.mem i
  rw [hp.mem_iff, List.mem_cons] at h2
  unfold updF
  rw [hn, Int.toNat_natCast]
  by_cases e : i = n
  · subst e
    rw [if_pos rfl]
    constructor
    · intro hi; exact absurd (hn ▸ hi) hnd.1
    · rintro ⟨_, _, e3⟩; cases e3
  · rw [if_neg e]
    constructor
    · intro hi; exact h2.1 (.inr hi)
    · intro hi
      rcases h2.2 hi with e3 | e3
      · omega
      · exact e3
theorem CI.upd {made : Nat} {R : Nat → Int} {Dn Dn' : Nat → Bool} {Rp Rp' : Nat → Bs} {cs : List Ca} {rs : List Res} (h : CI made R Dn Rp cs rs) (hm : ∀ i, Dn i = true → Dn' i = true ∧ Rp' i = Rp i) : CI made R Dn' Rp' cs rs :=
  ⟨h.nd, h.mem, h.pos, fun r hr => (h.ok r hr).imp (fun ⟨a, b, c⟩ => ⟨a, (hm _ b).1, by rw [(hm _ b).2]; exact c⟩) id, h.len, h.c32, h.dl⟩
/-- A frame that a client may get. -/
def DnOk (made : Nat) (Dn : Nat → Bool) (Rp : Nat → Bs) (f : Fr) : Prop := ∃ id code bd, f = repF id code bd ∧ 0 < id ∧ id ≤ made ∧ bd.length ≤ 1018 ∧ ((code = 0 ∧ Dn id = true ∧ Rp id = bd) ∨ (code = 7 ∧ bd = []))
theorem DnOk.upd {made made' : Nat} {Dn Dn' : Nat → Bool} {Rp Rp' : Nat → Bs} {f : Fr} (h : DnOk made Dn Rp f) (hl : made ≤ made') (hm : ∀ i, Dn i = true → Dn' i = true ∧ Rp' i = Rp i) : DnOk made' Dn' Rp' f := by
  obtain ⟨id, code, bd, h1, h2, h3, h4, h5⟩ := h
  exact ⟨id, code, bd, h1, h2, by omega, h4, h5.imp (fun ⟨a, b, c⟩ => ⟨a, (hm _ b).1, by rw [(hm _ b).2]; exact c⟩) (fun e => e)⟩
theorem step_rep {v : PC} {id code : Nat} {bd : Bs} (hid : 0 < id ∧ id ≤ v.last) (hi : id < 4294967296) (hc : code < 65536) : v.step 17 (repF id code bd).b = (v.endW (isId (id : Int)) (code : Int) bd, 0) := by
  have h1 : valB ((repF id code bd).b.take 4) = id := val_big4 hi _
  have h2 : (repF id code bd).b.drop 4 = bigB code 2 ++ bd := List.drop_left' (bigB_len _ _)
  have h3 : (repF id code bd).b.drop 6 = bd := by rw [show 6 = 4 + 2 from rfl, ← List.drop_drop, h2]; exact List.drop_left' (bigB_len _ _)
  have h4 : 6 ≤ (repF id code bd).b.length := by simp [repF, bigB_len]; omega
  unfold PC.step
  rw [if_neg (fun e => e ⟨rfl, h4⟩), h1, if_neg (fun e => e hid), h2, val_big2 hc, h3]
theorem runC {made : Nat} (hm : made < 4294967296) {R : Nat → Int} {Dn : Nat → Bool} {Rp : Nat → Bs} : ∀ (A : List Fr) (v : PC), (∀ f ∈ A, DnOk made Dn Rp f) → v.last = made → CI made R Dn Rp v.calls v.res →
    okF PC.step v A ∧ CI made R Dn Rp (runF PC.step v A).calls (runF PC.step v A).res ∧ runF PC.step v A = { v with calls := (runF PC.step v A).calls, res := (runF PC.step v A).res }
  | [], v, _, _, h => ⟨trivial, h, rfl⟩
  | f :: r, v, hf, hl, h => by
    obtain ⟨id, code, bd, rfl, h1, h2, h3, h4⟩ := hf f (List.mem_cons_self ..)
    have hc : code < 65536 := by omega
    have hst := step_rep (v := v) (bd := bd) (code := code) (id := id) ⟨h1, by omega⟩ (by omega) hc
    have hlen : (repF id code bd).b.length = 6 + bd.length := by simp [repF, bigB_len]; omega
    have hCI : CI made R Dn Rp (v.endW (isId (id : Int)) (code : Int) bd).calls (v.endW (isId (id : Int)) (code : Int) bd).res := h.endW fun c _ hq => by
      have hq2 : (c.id : Int) = id := of_decide_eq_true hq
      rcases h4 with ⟨a, b, c2⟩ | ⟨a, b⟩
      · left; refine ⟨by show (code : Int) = 0; omega, ?_, ?_⟩
        · show Dn ((c.id : Int)).toNat = true; rw [hq2, Int.toNat_natCast]; exact b
        · show Rp ((c.id : Int)).toNat = bd; rw [hq2, Int.toNat_natCast]; exact c2
      · right; exact ⟨b, .inr (.inr (by show (code : Int) = 7; omega))⟩
    obtain ⟨g1, g2, g3⟩ := runC hm r (v.endW (isId (id : Int)) (code : Int) bd) (fun f hf9 => hf f (List.mem_cons_of_mem _ hf9)) hl hCI
    have hrun : runF PC.step v (repF id code bd :: r) = runF PC.step (v.endW (isId (id : Int)) (code : Int) bd) r := by
      show runF PC.step (v.step 17 (repF id code bd).b).1 r = _
      rw [hst]
    rw [hrun]
    refine ⟨⟨by omega, by omega, by show (v.step 17 (repF id code bd).b).2 = 0; rw [hst], by show okF PC.step (v.step 17 (repF id code bd).b).1 r; rw [hst]; exact g1⟩, g2, ?_⟩
    rw [g3]; rfl
/-- The frames on the way to a server that has seen 'last'. -/
def okU (fin : Nat) : Nat → List Fr → Prop
  | last, [] => last = fin
  | last, f :: r => (∃ dl bd, f = reqF (last + 1) dl bd ∧ bd.length ≤ 1012 ∧ okU fin (last + 1) r) ∨ (∃ id, f = canF id ∧ 0 < id ∧ id ≤ last ∧ okU fin last r)
theorem okU_le {fin : Nat} : ∀ (L : List Fr) (last : Nat), okU fin last L → last ≤ fin
  | [], _, h => Nat.le_of_eq h
  | f :: r, last, h => by
    rcases h with ⟨_, _, _, _, h⟩ | ⟨_, _, _, _, h⟩
    · have := okU_le r _ h; omega
    · exact okU_le r _ h
theorem okU_req {fin : Nat} {dl : Nat} {bd : Bs} (hb : bd.length ≤ 1012) : ∀ (L : List Fr) (last : Nat), okU fin last L → okU (fin + 1) last (L ++ [reqF (fin + 1) dl bd])
  | [], last, h => by have h : last = fin := h; subst h; exact .inl ⟨dl, bd, rfl, hb, rfl⟩
  | f :: r, last, h => by
    rcases h with ⟨a, b, c, d, h⟩ | ⟨a, b, c, d, h⟩
    · exact .inl ⟨a, b, c, d, okU_req hb r _ h⟩
    · exact .inr ⟨a, b, c, d, okU_req hb r _ h⟩
theorem okU_can {fin : Nat} {id : Nat} (h1 : 0 < id) (h2 : id ≤ fin) : ∀ (L : List Fr) (last : Nat), okU fin last L → okU fin last (L ++ [canF id])
  | [], last, h => by have h : last = fin := h; subst h; exact .inr ⟨id, rfl, h1, h2, rfl⟩
  | f :: r, last, h => by
    rcases h with ⟨a, b, c, d, h⟩ | ⟨a, b, c, d, h⟩
    · exact .inl ⟨a, b, c, d, okU_can h1 h2 r _ h⟩
    · exact .inr ⟨a, b, c, d, okU_can h1 h2 r _ h⟩
theorem cnlF_enc (W : List Ca) : cnlF W = encA (W.map fun c => canF c.id) := by unfold cnlF encA; rw [List.flatMap_map]; rfl
theorem okU_cans {fin last : Nat} : ∀ (W : List Ca) (L : List Fr), (∀ c ∈ W, 0 < c.id ∧ c.id ≤ fin) → okU fin last L → okU fin last (L ++ W.map fun c => canF c.id)
  | [], L, _, h => by simpa using h
  | c :: r, L, hW, h => by
    have h1 := hW c (List.mem_cons_self ..)
    have h2 := okU_cans r (L ++ [canF c.id]) (fun c hc => hW c (List.mem_cons_of_mem _ hc)) (okU_can h1.1 h1.2 L last h)
    simpa using h2
structure SvI (u : PV) : Prop where
  o32 : u.opn.length ≤ 32
  nd : u.opn.Nodup
  opn : ∀ i ∈ u.opn, 1 ≤ i ∧ i ≤ (u.last : Int)
  qu : ∀ r ∈ u.qu, 1 ≤ r.id ∧ r.id ≤ (u.last : Int)
  ql : u.qu.length ≤ u.last
theorem delI_nd {id : Int} : ∀ {l : List Int}, l.Nodup → (delI id l).Nodup ∧ id ∉ delI id l
  | [], _ => ⟨List.nodup_nil, by simp [delI]⟩
  | x :: r, h => by
    obtain ⟨h1, h2⟩ := List.nodup_cons.1 h
    unfold delI
    split
    · rename_i e; subst e; exact ⟨h2, h1⟩
    · rename_i e
      obtain ⟨g1, g2⟩ := delI_nd (id := id) h2
      exact ⟨List.nodup_cons.2 ⟨fun hm => h1 (delI_sub hm), g1⟩, fun hm => by rcases List.mem_cons.1 hm with e2 | e2; exact e e2; exact g2 e2⟩
theorem SvI.close {u : PV} (h : SvI u) (id : Int) : SvI (u.close id) ∧ (∀ i ∈ (u.close id).opn, i ∈ u.opn) ∧ id ∉ (u.close id).opn := by
  unfold PV.close
  split
  · have hd := delI_nd (id := id) h.nd
    refine ⟨⟨Nat.le_trans (delI_len ..) h.o32, hd.1, fun i hi => h.opn i (delI_sub hi), fun r hr => h.qu r (List.mem_filter.1 hr).1, ?_⟩, fun i hi => delI_sub hi, hd.2⟩
    have h2 : (u.qu.filter (notId id)).length ≤ u.qu.length := List.length_filter_le ..
    have := h.ql
    show (u.qu.filter (notId id)).length ≤ u.last
    omega
  · rename_i hn
    refine ⟨h, fun i hi => hi, fun hm => hn ?_⟩
    rw [List.any_eq_true]
    exact ⟨id, hm, decide_eq_true rfl⟩
theorem close_same (u : PV) (id : Int) : (u.close id).last = u.last ∧ (u.close id).out = u.out ∧ (u.close id).br = u.br ∧ (u.close id).rb = u.rb ∧ (u.close id).bs = u.bs := by unfold PV.close; split <;> exact ⟨rfl, rfl, rfl, rfl, rfl⟩
theorem runU {fin : Nat} (hfin : fin < 4294967296) : ∀ (A B : List Fr) (u : PV), okU fin u.last (A ++ B) → SvI u → okF PV.step u (A ++ B) ∧ okU fin (runF PV.step u A).last B ∧ SvI (runF PV.step u A) ∧ u.last ≤ (runF PV.step u A).last ∧ (runF PV.step u A).br = u.br ∧ (runF PV.step u A).rb = u.rb ∧
    (∀ i ∈ (runF PV.step u A).opn, i ∈ u.opn ∨ (u.last : Int) < i) ∧ ∃ D, (runF PV.step u A).out = u.out ++ encA D ∧ (∀ f ∈ D, ∃ id, f = repF id 7 [] ∧ 0 < id ∧ id ≤ fin) ∧ (encA D).length ≤ (encA A).length := by
  have key : ∀ (L : List Fr) (u : PV), okU fin u.last L → okF PV.step u L := by
    intro L
    induction L with
    | nil => intro u _; trivial
    | cons f r ih =>
      intro u h
      have hlf := okU_le _ _ h
      rcases h with ⟨dl, bd, rfl, hb, h⟩ | ⟨id, rfl, h1, h2, h⟩
      · have hlf2 := okU_le _ _ h
        have hlen : (reqF (u.last + 1) dl bd).b.length = 12 + bd.length := by simp [reqF, bigB_len]; omega
        have hv : valB ((reqF (u.last + 1) dl bd).b.take 4) = u.last + 1 := val_big4 (by omega) _
        have hs : (u.step 16 (reqF (u.last + 1) dl bd).b).2 = 0 ∧ (u.step 16 (reqF (u.last + 1) dl bd).b).1.last = u.last + 1 := by
          unfold PV.step
          rw [if_pos ⟨rfl, by omega⟩, hv, if_neg (fun e => e rfl)]
          split <;> exact ⟨rfl, rfl⟩
        exact ⟨by omega, by omega, hs.1, ih _ (by show okU fin (u.step 16 (reqF (u.last + 1) dl bd).b).1.last r; rw [hs.2]; exact h)⟩
      · have hlen : (canF id).b.length = 4 := bigB_len _ _
        have hv : valB ((canF id).b.take 4) = id := by have := val_big4 (n := id) (by omega) []; rwa [List.append_nil] at this
        have hs : (u.step 18 (canF id).b).2 = 0 ∧ (u.step 18 (canF id).b).1.last = u.last := by
          unfold PV.step
          rw [if_neg (fun e => absurd e.1 (by decide)), if_pos ⟨rfl, hlen⟩, hv, if_neg (fun e => e ⟨h1, h2⟩)]
          exact ⟨rfl, (close_same u _).1⟩
        exact ⟨by omega, by omega, hs.1, ih _ (by show okU fin (u.step 18 (canF id).b).1.last r; rw [hs.2]; exact h)⟩
  intro A
  induction A with
  | nil => exact fun B u h hs => ⟨key _ _ h, h, hs, Nat.le_refl _, rfl, rfl, fun i hi => .inl hi, [], by simp [runF, encA], (fun f hf => by cases hf), by simp [encA]⟩
  | cons f r ih =>
    intro B u h hs
    have hok := key _ _ h
    have hlf := okU_le _ _ h
    refine ⟨hok, ?_⟩
    show okU fin (runF PV.step (u.step f.k f.b).1 r).last B ∧ SvI (runF PV.step (u.step f.k f.b).1 r) ∧ u.last ≤ (runF PV.step (u.step f.k f.b).1 r).last ∧ (runF PV.step (u.step f.k f.b).1 r).br = u.br ∧ (runF PV.step (u.step f.k f.b).1 r).rb = u.rb ∧
      (∀ i ∈ (runF PV.step (u.step f.k f.b).1 r).opn, i ∈ u.opn ∨ (u.last : Int) < i) ∧ ∃ D, (runF PV.step (u.step f.k f.b).1 r).out = u.out ++ encA D ∧ (∀ f ∈ D, ∃ id, f = repF id 7 [] ∧ 0 < id ∧ id ≤ fin) ∧ (encA D).length ≤ (encA (f :: r)).length
    rw [encA_cons, List.length_append, encF_len]
    rcases h with ⟨dl, bd, rfl, hb, h⟩ | ⟨id, rfl, h1, h2, h⟩
    · have hlf2 := okU_le _ _ h
      have hlen : (reqF (u.last + 1) dl bd).b.length = 12 + bd.length := by simp [reqF, bigB_len]; omega
      have hv : valB ((reqF (u.last + 1) dl bd).b.take 4) = u.last + 1 := val_big4 (by omega) _
      by_cases hf : 32 ≤ u.opn.length
      · have hst : u.step 16 (reqF (u.last + 1) dl bd).b = ({ u with last := u.last + 1, out := u.out ++ encF 17 (bigB (u.last + 1) 4 ++ [0, 7]) }, 0) := by
          unfold PV.step
          rw [if_pos ⟨rfl, by omega⟩, hv, if_neg (fun e => e rfl), if_pos hf]
        rw [show (reqF (u.last + 1) dl bd).k = 16 from rfl, hst]
        obtain ⟨-, g1, g2, g3, g4, g5, g6, D, g7, g8, g9⟩ := ih B { u with last := u.last + 1, out := u.out ++ encF 17 (bigB (u.last + 1) 4 ++ [0, 7]) } h ⟨hs.o32, hs.nd, fun i hi => by have := hs.opn i hi; show 1 ≤ i ∧ i ≤ ((u.last + 1 : Nat) : Int); omega, fun r hr => by have := hs.qu r hr; show 1 ≤ r.id ∧ r.id ≤ ((u.last + 1 : Nat) : Int); omega, by have := hs.ql; show u.qu.length ≤ u.last + 1; omega⟩
        refine ⟨g1, g2, Nat.le_of_succ_le g3, g4, g5, fun i hi => ?_, repF (u.last + 1) 7 [] :: D, ?_, fun f hf9 => ?_, ?_⟩
        · rcases g6 i hi with e | e
          · exact .inl e
          · right; have e : ((u.last + 1 : Nat) : Int) < i := e; omega
        · rw [g7, encA_cons, ← List.append_assoc]
          congr 2
        · rcases List.mem_cons.1 hf9 with rfl | e
          · exact ⟨u.last + 1, rfl, by omega, by omega⟩
          · exact g8 f e
        · rw [encA_cons, List.length_append, encF_len]
          simp only [repF, List.length_append, bigB_len, List.length_nil]
          omega
      · have hst : u.step 16 (reqF (u.last + 1) dl bd).b = ({ u with last := u.last + 1, opn := u.opn ++ [((u.last + 1 : Nat) : Int)], qu := u.qu ++ [⟨((u.last + 1 : Nat) : Int), valB (((reqF (u.last + 1) dl bd).b.drop 4).take 8), (reqF (u.last + 1) dl bd).b.drop 12⟩] }, 0) := by
          unfold PV.step
          rw [if_pos ⟨rfl, by omega⟩, hv, if_neg (fun e => e rfl), if_neg hf]
        rw [show (reqF (u.last + 1) dl bd).k = 16 from rfl, hst]
        obtain ⟨-, g1, g2, g3, g4, g5, g6, D, g7, g8, g9⟩ := ih B { u with last := u.last + 1, opn := u.opn ++ [((u.last + 1 : Nat) : Int)], qu := u.qu ++ [⟨((u.last + 1 : Nat) : Int), valB (((reqF (u.last + 1) dl bd).b.drop 4).take 8), (reqF (u.last + 1) dl bd).b.drop 12⟩] } h
          ⟨by show (u.opn ++ _).length ≤ 32; simp; omega, List.nodup_append.2 ⟨hs.nd, by simp, fun a ha b hb e => by rw [List.mem_singleton.1 hb] at e; have := hs.opn a ha; omega⟩, fun i hi => by
            rcases List.mem_append.1 hi with e | e
            · have := hs.opn i e; show 1 ≤ i ∧ i ≤ ((u.last + 1 : Nat) : Int); omega
            · rw [List.mem_singleton.1 e]; show 1 ≤ ((u.last + 1 : Nat) : Int) ∧ ((u.last + 1 : Nat) : Int) ≤ ((u.last + 1 : Nat) : Int); omega, fun r hr => by
            rcases List.mem_append.1 hr with e | e
            · have := hs.qu r e; show 1 ≤ r.id ∧ r.id ≤ ((u.last + 1 : Nat) : Int); omega
            · rw [List.mem_singleton.1 e]; show 1 ≤ ((u.last + 1 : Nat) : Int) ∧ ((u.last + 1 : Nat) : Int) ≤ ((u.last + 1 : Nat) : Int); omega, by have := hs.ql; show (u.qu ++ _).length ≤ u.last + 1; simp; omega⟩
        refine ⟨g1, g2, Nat.le_of_succ_le g3, g4, g5, fun i hi => ?_, D, g7, g8, by omega⟩
        rcases g6 i hi with e | e
        · rcases List.mem_append.1 e with e | e
          · exact .inl e
          · right; rw [List.mem_singleton.1 e]; omega
        · right; have e : ((u.last + 1 : Nat) : Int) < i := e; omega
    · have hlen : (canF id).b.length = 4 := bigB_len _ _
      have hv : valB ((canF id).b.take 4) = id := by have := val_big4 (n := id) (by omega) []; rwa [List.append_nil] at this
      have hst : u.step 18 (canF id).b = (u.close (id : Int), 0) := by
        unfold PV.step
        rw [if_neg (fun e => absurd e.1 (by decide)), if_pos ⟨rfl, hlen⟩, hv, if_neg (fun e => e ⟨h1, h2⟩)]
      rw [show (canF id).k = 18 from rfl, hst]
      obtain ⟨c1, c2, c3, c4, c5⟩ := close_same u (id : Int)
      obtain ⟨s1, s2, s3⟩ := hs.close (id : Int)
      obtain ⟨-, g1, g2, g3, g4, g5, g6, D, g7, g8, g9⟩ := ih B (u.close (id : Int)) (by rw [c1]; exact h) s1
      rw [c1] at g3 g6
      exact ⟨g1, g2, g3, g4.trans c3, g5.trans c4, fun i hi => (g6 i hi).imp (s2 i) (fun e => e), D, by rw [g7, c2], g8, by omega⟩
end Go.Proofs.Ytdelhikejgoffaa
end
section
set_option linter.unusedVariables false
set_option maxRecDepth 20000
set_option maxHeartbeats 2000000
namespace Go.Proofs.Ytdelhikejgoffaa
def pcbB (x : PC) : Bool := decide (x.out.length ≤ 200000) && (decide (x.bs.length ≤ 65536) && (decide (x.last ≤ 1000000) && (decide (x.calls.length ≤ 32) && (decide (x.calls.length + x.res.length ≤ 100000) && (decide (x.now ≤ 18446744073709551615) && (x.calls.all (fun c => decide (c.dl ≤ 18446744073709551615) && decide (c.id ≤ 1000000)) && (decide (x.br ≠ 0) || decide (x.rb = 0))))))))
theorem PCB.of {x : PC} (h : pcbB x = true) : PCB x := by
  simp only [pcbB, Bool.and_eq_true, decide_eq_true_eq, List.all_eq_true, Bool.or_eq_true] at h
  obtain ⟨h1, h2, h3, h4, h5, h6, h7, h8⟩ := h
  exact ⟨h1, h2, h3, h4, h5, h6, fun c hc => (h7 c hc).1, fun c hc => (h7 c hc).2, fun e => h8.resolve_left (fun n => n e)⟩
def pvbB (x : PV) : Bool := decide (x.out.length ≤ 200000) && (decide (x.bs.length ≤ 65536) && (decide (x.last < 4294967296) && (decide (x.opn.length ≤ 32) && (decide (x.qu.length ≤ 200000) && (x.opn.all (fun i => decide (0 ≤ i) && decide (i < 4294967296)) && (decide (x.br ≠ 0) || decide (x.rb = 0)))))))
theorem PVB.of {x : PV} (h : pvbB x = true) : PVB x := by
  simp only [pvbB, Bool.and_eq_true, decide_eq_true_eq, List.all_eq_true, Bool.or_eq_true] at h
  obtain ⟨h1, h2, h3, h4, h5, h6, h8⟩ := h
  exact ⟨h1, h2, h3, h4, h5, h6, fun e => h8.resolve_left (fun n => n e)⟩
theorem pc0b : PCB pc0 := PCB.of (by kernel_rfl)
theorem pv0b : PVB pv0 := PVB.of (by kernel_rfl)
theorem RdB.cst (b : Nat) (l : Bs) {fr : Nat × Nat} : RdB (some ⟨b, 0, none⟩) ⟨some b, .cells (List.toArray (bvs l)) 5 fr⟩ l := fun _ => ⟨b, 0, _, _, fr, rfl, rfl, fun j v hj => by rw [Nat.zero_add]; exact hj⟩
theorem kf1 : (pc0.call [97, 98] 10).2 = (1, 0) := by kernel_rfl
def kc1 : PC := (pc0.call [97, 98] 10).1
theorem kc1b : PCB kc1 := PCB.of (by kernel_rfl)
theorem kf2 : (kc1.call [] 5).2 = (2, 0) := by kernel_rfl
def kc2 : PC := (kc1.call [] 5).1
theorem kc2b : PCB kc2 := PCB.of (by kernel_rfl)
theorem kf3 : (kc2.call [120] 0).2 = (0, 2) := by kernel_rfl
def kc3 : PC := (kc2.call [120] 0).1
theorem kc3b : PCB kc3 := PCB.of (by kernel_rfl)
theorem kf4 : (pv0.recv (kc3.out.take 65536)).2 = 0 := by kernel_rfl
def ks1 : PV := (pv0.recv (kc3.out.take 65536)).1
theorem ks1b : PVB ks1 := PVB.of (by kernel_rfl)
def kc4 : PC := { kc3 with out := kc3.out.drop 65536 }
theorem kc4b : PCB kc4 := PCB.of (by kernel_rfl)
theorem kf5 : ks1.asks 1 10 [97, 98] = true := by kernel_rfl
def ks2 : PV := ks1.next.1
theorem ks2b : PVB ks2 := PVB.of (by kernel_rfl)
theorem kf6 : ks2.asks 2 5 [] = true := by kernel_rfl
def ks3 : PV := ks2.next.1
theorem ks3b : PVB ks3 := PVB.of (by kernel_rfl)
theorem kf7 : (ks3.reply 1 0 [121, 101, 115]).2 = 0 := by kernel_rfl
def ks4 : PV := (ks3.reply 1 0 [121, 101, 115]).1
theorem ks4b : PVB ks4 := PVB.of (by kernel_rfl)
theorem kf8 : (kc4.recv (ks4.out.take 65536)).2 = 0 := by kernel_rfl
def kc5 : PC := (kc4.recv (ks4.out.take 65536)).1
theorem kc5b : PCB kc5 := PCB.of (by kernel_rfl)
def ks5 : PV := { ks4 with out := ks4.out.drop 65536 }
theorem ks5b : PVB ks5 := PVB.of (by kernel_rfl)
theorem kf9 : kc5.ends 1 0 [121, 101, 115] = true := by kernel_rfl
theorem kf10 : kc5.res.all (fun r => decide (r.body.length ≤ 1000000)) = true := by kernel_rfl
def kc6 : PC := kc5.next.1
theorem kc6b : PCB kc6 := PCB.of (by kernel_rfl)
theorem kf11 : (ks5.reply 1 0 [110, 111]).2 = 9 := by kernel_rfl
def ks6 : PV := (ks5.reply 1 0 [110, 111]).1
theorem ks6b : PVB ks6 := PVB.of (by kernel_rfl)
theorem kf12 : (kc6.advance 5).2 = 0 := by kernel_rfl
def kc7 : PC := (kc6.advance 5).1
theorem kc7b : PCB kc7 := PCB.of (by kernel_rfl)
theorem kf13 : kc7.ends 2 12 [] = true := by kernel_rfl
theorem kf14 : kc7.res.all (fun r => decide (r.body.length ≤ 1000000)) = true := by kernel_rfl
def kc8 : PC := kc7.next.1
theorem kc8b : PCB kc8 := PCB.of (by kernel_rfl)
theorem kf15 : (ks6.recv (kc8.out.take 65536)).2 = 0 := by kernel_rfl
def ks7 : PV := (ks6.recv (kc8.out.take 65536)).1
theorem ks7b : PVB ks7 := PVB.of (by kernel_rfl)
def kc9 : PC := { kc8 with out := kc8.out.drop 65536 }
theorem kc9b : PCB kc9 := PCB.of (by kernel_rfl)
theorem kf16 : ks7.opn = [] := by kernel_rfl
theorem kf17 : (ks7.reply 2 0 []).2 = 9 := by kernel_rfl
def ks8 : PV := (ks7.reply 2 0 []).1
theorem ks8b : PVB ks8 := PVB.of (by kernel_rfl)
theorem kf18 : (kc9.call [122] 9).2 = (3, 0) := by kernel_rfl
def kc10 : PC := (kc9.call [122] 9).1
theorem kc10b : PCB kc10 := PCB.of (by kernel_rfl)
theorem kf19 : (ks8.recv (kc10.out.take 65536)).2 = 0 := by kernel_rfl
def ks9 : PV := (ks8.recv (kc10.out.take 65536)).1
theorem ks9b : PVB ks9 := PVB.of (by kernel_rfl)
def kc11 : PC := { kc10 with out := kc10.out.drop 65536 }
theorem kc11b : PCB kc11 := PCB.of (by kernel_rfl)
theorem kf20 : (kc11.cancel 3).2 = 0 := by kernel_rfl
def kc12 : PC := (kc11.cancel 3).1
theorem kc12b : PCB kc12 := PCB.of (by kernel_rfl)
theorem kf21 : (ks9.recv (kc12.out.take 65536)).2 = 0 := by kernel_rfl
def ks10 : PV := (ks9.recv (kc12.out.take 65536)).1
theorem ks10b : PVB ks10 := PVB.of (by kernel_rfl)
def kc13 : PC := { kc12 with out := kc12.out.drop 65536 }
theorem kc13b : PCB kc13 := PCB.of (by kernel_rfl)
theorem kf22 : (kc13.cancel 3).2 = 9 := by kernel_rfl
def kc14 : PC := (kc13.cancel 3).1
theorem kc14b : PCB kc14 := PCB.of (by kernel_rfl)
theorem kf23 : kc14.ends 3 14 [] = true := by kernel_rfl
theorem kf24 : kc14.res.all (fun r => decide (r.body.length ≤ 1000000)) = true := by kernel_rfl
def kc15 : PC := kc14.next.1
theorem kf25 : ks10.qu = [] := by kernel_rfl
end Go.Proofs.Ytdelhikejgoffaa
end
section
set_option linter.unusedVariables false
set_option maxRecDepth 20000
set_option maxHeartbeats 2000000
namespace Go.Proofs.Ytdelhikejgoffaa
def updB (D : Nat → Bool) (i : Nat) : Nat → Bool := fun j => if j = i then true else D j
def updP (P : Nat → Bs) (i : Nat) (b : Bs) : Nat → Bs := fun j => if j = i then b else P j
structure HI (n : Nat) (v : PC) (u : PV) (made now : Nat) (R : Nat → Int) (Dn : Nat → Bool) (Rp : Nat → Bs) (T : List Int) : Prop where
  vbr : v.br = 0
  vrb : v.rb = 0
  vlast : v.last = made
  vnow : v.now = now
  ubr : u.br = 0
  urb : u.rb = 0
  si : SvI u
  fu : ∃ FU, u.bs ++ v.out = encA FU ∧ okU made u.last FU
  fd : ∃ FD, v.bs ++ u.out = encA FD ∧ ∀ f ∈ FD, DnOk made Dn Rp f
  ci : CI made R Dn Rp v.calls v.res
  mn : made ≤ n
  nn : now ≤ 600 * n
  sz : v.out.length + u.bs.length + u.out.length + v.bs.length ≤ 700 * n
  r0 : ∀ i, made < i → R i = 0
  r01 : ∀ i, R i = 0 ∨ R i = 1
  dn : ∀ i : Nat, Dn i = true → i ≤ u.last ∧ (i : Int) ∉ u.opn
  tk : ∀ t ∈ T, 1 ≤ t ∧ t ≤ (u.last : Int)
section
variable {n : Nat} {v : PC} {u : PV} {made now : Nat} {R : Nat → Int} {Dn : Nat → Bool} {Rp : Nat → Bs} {T : List Int}
theorem HI.ul (h : HI n v u made now R Dn Rp T) : u.last ≤ made := by obtain ⟨FU, _, h2⟩ := h.fu; exact okU_le _ _ h2
theorem HI.mono (h : HI n v u made now R Dn Rp T) : HI (n + 1) v u made now R Dn Rp T :=
  ⟨h.vbr, h.vrb, h.vlast, h.vnow, h.ubr, h.urb, h.si, h.fu, h.fd, h.ci, Nat.le_succ_of_le h.mn, by have := h.nn; omega, by have := h.sz; omega, h.r0, h.r01, h.dn, h.tk⟩
theorem HI.pcb (h : HI n v u made now R Dn Rp T) (hn : n ≤ 41) : PCB v := by
  have h1 := h.sz
  have h2 := h.mn
  have h3 := h.nn
  have h4 := h.ci.len
  refine ⟨by omega, by omega, by rw [h.vlast]; omega, h.ci.c32, by omega, by rw [h.vnow]; omega, fun c hc => by have := h.ci.dl c hc; omega, fun c hc => ?_, fun _ => h.vrb⟩
  have h5 := (h.ci.mem c.id).1 (List.mem_append_left _ (List.mem_map_of_mem hc))
  omega
theorem HI.pvb (h : HI n v u made now R Dn Rp T) (hn : n ≤ 41) : PVB u := by
  have h1 := h.sz
  have h2 := h.mn
  have h3 := h.ul
  have h4 := h.si.ql
  exact ⟨by omega, by omega, by omega, h.si.o32, by omega, fun i hi => by have := h.si.opn i hi; omega, fun _ => h.urb⟩
theorem HI.resl (h : HI n v u made now R Dn Rp T) : v.res.length ≤ n := by have := h.ci.len; have := h.mn; omega
theorem HI.call (h : HI n v u made now R Dn Rp T) (hc : v.closed = false) (hn : n < 41) {bd : Bs} (hb : bd.length ≤ 600) {m : Nat} (hm : m ≤ 600) :
    ((v.call bd (now + m + 1)).2 = (((made + 1 : Nat) : Int), 0) ∧ (v.call bd (now + m + 1)).1.closed = false ∧ HI (n + 1) (v.call bd (now + m + 1)).1 u (made + 1) now R Dn Rp T) ∨ ((v.call bd (now + m + 1)).2 = (0, 7) ∧ (v.call bd (now + m + 1)).1 = v) := by
  have h1 := h.sz
  have h2 := h.nn
  unfold PC.call
  rw [if_neg (by rw [h.vnow]; omega), if_neg (by rw [hc, h.vbr]; simp), if_neg (by omega)]
  by_cases hf : 32 ≤ v.calls.length ∨ 65536 < v.out.length
  · rw [if_pos hf]; exact .inr ⟨rfl, rfl⟩
  · rw [if_neg hf]
    left
    obtain ⟨FU, f1, f2⟩ := h.fu
    obtain ⟨FD, g1, g2⟩ := h.fd
    refine ⟨by rw [h.vlast], hc, ⟨h.vbr, h.vrb, by show v.last + 1 = made + 1; rw [h.vlast], h.vnow, h.ubr, h.urb, h.si, ⟨FU ++ [reqF (made + 1) (now + m + 1) bd], ?_, okU_req (by omega) _ _ f2⟩, ⟨FD, g1, fun f hf => (g2 f hf).upd (Nat.le_succ _) fun i hi => ⟨hi, rfl⟩⟩, ?_, by have := h.mn; omega, by omega, ?_, fun i hi => h.r0 i (by omega), h.r01, h.dn, h.tk⟩⟩
    · show u.bs ++ (v.out ++ encF 16 (bigB (v.last + 1) 4 ++ (bigB (now + m + 1) 8 ++ bd))) = _
      rw [← List.append_assoc, f1, encA_app, encA_one, h.vlast]; rfl
    · show CI (made + 1) R Dn Rp (v.calls ++ [⟨v.last + 1, now + m + 1⟩]) v.res
      rw [h.vlast]
      exact h.ci.call (h.r0 _ (Nat.lt_succ_self _)) (by omega) (by omega)
    · show (v.out ++ encF 16 (bigB (v.last + 1) 4 ++ (bigB (now + m + 1) 8 ++ bd))).length + u.bs.length + u.out.length + v.bs.length ≤ 700 * (n + 1)
      rw [List.length_append, encF_len, List.length_append, List.length_append, bigB_len, bigB_len]
      omega
theorem HI.endc (h : HI n v u made now R Dn Rp T) (q : Ca → Bool) (code : Int) (hcode : code = 12 ∨ code = 14) (now2 : Nat) (hnow2 : now2 ≤ 600 * (n + 1)) :
    HI (n + 1) { ({ v with now := now2 } : PC).endW q code [] with out := v.out ++ cnlF (overC q code v.calls) } u made now2 R Dn Rp T := by
  obtain ⟨FU, f1, f2⟩ := h.fu
  have h1 := h.sz
  have h32 := h.ci.c32
  have hlen := overC_len q code v.calls
  refine ⟨h.vbr, h.vrb, h.vlast, rfl, h.ubr, h.urb, h.si, ⟨FU ++ (overC q code v.calls).map fun c => canF c.id, ?_, okU_cans _ _ (fun c hc => ?_) f2⟩, h.fd, h.ci.endW fun c _ _ => .inr ⟨rfl, hcode.imp id .inl⟩, by have := h.mn; omega, hnow2, ?_, h.r0, h.r01, h.dn, h.tk⟩
  · show u.bs ++ (v.out ++ cnlF _) = _
    rw [← List.append_assoc, f1, encA_app, cnlF_enc]
  · have h5 := (h.ci.mem c.id).1 (List.mem_append_left _ (List.mem_map_of_mem (overC_mem hc)))
    omega
  · show (v.out ++ cnlF (overC q code v.calls)).length + _ + _ + _ ≤ _
    rw [List.length_append, cnlF_len]
    show _ + _ + _ + v.bs.length ≤ _
    omega
theorem HI.cancel (h : HI n v u made now R Dn Rp T) (id : Int) : (v.cancel id).1.closed = v.closed ∧ HI (n + 1) (v.cancel id).1 u made now R Dn Rp T := by
  unfold PC.cancel
  split
  · exact ⟨rfl, h.mono⟩
  · split
    · exact ⟨rfl, h.mono⟩
    · split
      · exact ⟨rfl, h.mono⟩
      · refine ⟨rfl, ?_⟩
        have h9 := h.endc (isId id) 14 (.inr rfl) now (by have := h.nn; omega)
        have e : ({ v with now := now } : PC) = v := by rw [← h.vnow]
        rw [e] at h9
        exact h9
theorem HI.adv (h : HI n v u made now R Dn Rp T) (hn : n < 41) {m : Nat} (hm : m ≤ 600) : (v.advance (now + m)).2 = 0 ∧ (v.advance (now + m)).1.closed = v.closed ∧ HI (n + 1) (v.advance (now + m)).1 u made (now + m) R Dn Rp T := by
  have h2 := h.nn
  unfold PC.advance
  rw [if_neg (by rw [h.vnow]; omega)]
  exact ⟨rfl, rfl, h.endc (passQ (now + m)) 12 (.inl rfl) (now + m) (by omega)⟩
theorem HI.next (h : HI n v u made now R Dn Rp T) {r : Rr} {rest : List Rr} (he : u.qu = r :: rest) : 1 ≤ r.id ∧ r.id ≤ made ∧ HI (n + 1) v { u with qu := rest } made now R Dn Rp (T ++ [r.id]) := by
  have h1 := h.si.qu r (by rw [he]; exact List.mem_cons_self ..)
  have h2 := h.ul
  have h3 := h.mono
  refine ⟨h1.1, by omega, ⟨h3.vbr, h3.vrb, h3.vlast, h3.vnow, h3.ubr, h3.urb, ⟨h.si.o32, h.si.nd, h.si.opn, fun x hx => h.si.qu x (by rw [he]; exact List.mem_cons_of_mem _ hx), by have := h.si.ql; rw [he, List.length_cons] at this; show rest.length ≤ u.last; omega⟩, h3.fu, h3.fd, h3.ci, h3.mn, h3.nn, h3.sz, h3.r0, h3.r01, h3.dn, fun t ht => ?_⟩⟩
  rcases List.mem_append.1 ht with e | e
  · exact h.tk t e
  · rw [List.mem_singleton.1 e]; exact h1
theorem HI.reply (h : HI n v u made now R Dn Rp T) (hn : n < 41) {id : Int} (hid : id ∈ T) {bd : Bs} (hb : bd.length ≤ 600) :
    ((u.reply id 0 bd).2 = 0 ∧ Dn id.toNat = false ∧ HI (n + 1) v (u.reply id 0 bd).1 made now R (updB Dn id.toNat) (updP Rp id.toNat bd) T) ∨ ((u.reply id 0 bd).2 = 9 ∧ (u.reply id 0 bd).1 = u) := by
  have h1 := h.sz
  have h2 := h.tk id hid
  have h3 := h.ul
  unfold PV.reply
  rw [if_neg (by omega), if_neg (by rw [h.ubr]; simp), if_neg (by omega)]
  by_cases ho : u.opn.any (eqI id) = false
  · rw [if_pos ho]; exact .inr ⟨rfl, rfl⟩
  · rw [if_neg ho, if_neg (by omega)]
    left
    obtain ⟨i, rfl⟩ : ∃ i : Nat, id = i := ⟨id.toNat, by omega⟩
    rw [Int.toNat_natCast]
    have hmem : (i : Int) ∈ u.opn := by
      have ho2 : u.opn.any (eqI (i : Int)) = true := by simpa using ho
      obtain ⟨x, hx, hx2⟩ := List.any_eq_true.1 ho2
      have : (i : Int) = x := of_decide_eq_true hx2
      rw [this]; exact hx
    have hdn : Dn i = false := by
      cases hd : Dn i with
      | false => rfl
      | true => exact absurd hmem (h.dn i hd).2
    have hup : ∀ j, Dn j = true → updB Dn i j = true ∧ updP Rp i bd j = Rp j := fun j hj => by
      have hne : ¬ j = i := fun e => by rw [e, hdn] at hj; cases hj
      unfold updB updP
      rw [if_neg hne, if_neg hne]; exact ⟨hj, rfl⟩
    obtain ⟨c1, c2, c3, c4, c5⟩ := close_same u (i : Int)
    obtain ⟨s1, s2, s3⟩ := h.si.close (i : Int)
    obtain ⟨FU, f1, f2⟩ := h.fu
    obtain ⟨FD, g1, g2⟩ := h.fd
    refine ⟨rfl, hdn, ⟨h.vbr, h.vrb, h.vlast, h.vnow, c3.trans h.ubr, c4.trans h.urb, ⟨s1.o32, s1.nd, s1.opn, s1.qu, s1.ql⟩, ⟨FU, by rw [show (({ u.close (i : Int) with out := u.out ++ encF 17 (bigB i 4 ++ (bigB (0 : Int).toNat 2 ++ bd)) } : PV)).bs = u.bs from c5]; exact f1, by show okU made (u.close (i : Int)).last FU; rw [c1]; exact f2⟩, ⟨FD ++ [repF i 0 bd], ?_, fun f hf => ?_⟩, h.ci.upd hup, by have := h.mn; omega, by have := h.nn; omega, ?_, h.r0, h.r01, fun j hj => ?_, fun t ht => by have := h.tk t ht; show 1 ≤ t ∧ t ≤ ((u.close (i : Int)).last : Int); rw [c1]; exact this⟩⟩
    · show v.bs ++ (u.out ++ encF 17 (bigB i 4 ++ (bigB 0 2 ++ bd))) = _
      rw [← List.append_assoc, g1, encA_app, encA_one]; rfl
    · rcases List.mem_append.1 hf with e | e
      · exact (g2 f e).upd (Nat.le_refl _) hup
      · rw [List.mem_singleton.1 e]
        exact ⟨i, 0, bd, rfl, by omega, by omega, by omega, .inl ⟨rfl, by unfold updB; rw [if_pos rfl], by unfold updP; rw [if_pos rfl]⟩⟩
    · show _ + (u.close (i : Int)).bs.length + (u.out ++ encF 17 (bigB i 4 ++ (bigB 0 2 ++ bd))).length + _ ≤ _
      rw [c5, List.length_append, encF_len, List.length_append, List.length_append, bigB_len, bigB_len]
      omega
    · show j ≤ (u.close (i : Int)).last ∧ (j : Int) ∉ (u.close (i : Int)).opn
      rw [c1]
      by_cases e : j = i
      · subst e; exact ⟨by omega, s3⟩
      · have hj2 : Dn j = true := by unfold updB at hj; rw [if_neg e] at hj; exact hj
        exact ⟨(h.dn j hj2).1, fun hm => (h.dn j hj2).2 (s2 _ hm)⟩
theorem HI.up (h : HI n v u made now R Dn Rp T) (hn : n < 41) (m : Nat) : (u.recv (v.out.take m)).2 = 0 ∧ HI (n + 1) { v with out := v.out.drop m } (u.recv (v.out.take m)).1 made now R Dn Rp T := by
  have h1 := h.sz
  have hmn := h.mn
  obtain ⟨FU, f1, f2⟩ := h.fu
  have htl : (v.out.take m).length ≤ v.out.length := by rw [List.length_take]; omega
  have htd : (v.out.take m).length + (v.out.drop m).length = v.out.length := by rw [List.length_take, List.length_drop]; omega
  have hs0 : SvI { u with bs := [] } := ⟨h.si.o32, h.si.nd, h.si.opn, h.si.qu, h.si.ql⟩
  have hbs : (u.bs ++ v.out.take m) ++ v.out.drop m = encA FU := by rw [List.append_assoc, List.take_append_drop]; exact f1
  have hok0 := (runU (fin := made) (by omega) [] FU { u with bs := [] } f2 hs0).1
  obtain ⟨A, B, bs', e1, e2, e3, e4⟩ := rcv_run PV.step (u.bs.length + (v.out.take m).length + 1) { u with bs := [] } FU (u.bs ++ v.out.take m) (v.out.drop m) hbs hok0 (by rw [List.length_append]; omega)
  subst e1
  obtain ⟨-, g1, g2, g3, g4, g5, g6, D, g7, g8, g9⟩ := runU (fin := made) (by omega) A B { u with bs := [] } f2 hs0
  have hrec : u.recv (v.out.take m) = ({ runF PV.step { u with bs := [] } A with bs := bs', rb := 0, br := 0 }, 0) := by
    unfold PV.recv
    rw [if_neg (by rw [h.ubr]; simp), if_neg (by omega)]
    simp only [e2]
  rw [hrec]
  obtain ⟨FD, k1, k2⟩ := h.fd
  rw [List.length_append] at e4
  refine ⟨rfl, ⟨h.vbr, h.vrb, h.vlast, h.vnow, rfl, rfl, ⟨g2.o32, g2.nd, g2.opn, g2.qu, g2.ql⟩, ⟨B, e3, g1⟩, ⟨FD ++ D, ?_, fun f hf => ?_⟩, h.ci, by omega, by have := h.nn; omega, ?_, h.r0, h.r01, fun i hi => ?_, fun t ht => ?_⟩⟩
  · show v.bs ++ (runF PV.step { u with bs := [] } A).out = _
    rw [g7, ← List.append_assoc, k1, encA_app]
  · rcases List.mem_append.1 hf with e | e
    · exact k2 f e
    · obtain ⟨id, rfl, i1, i2⟩ := g8 f e
      exact ⟨id, 7, [], rfl, i1, i2, by simp, .inr ⟨rfl, rfl⟩⟩
  · show (v.out.drop m).length + bs'.length + (runF PV.step { u with bs := [] } A).out.length + v.bs.length ≤ _
    rw [g7, List.length_append]
    show _ + _ + (u.out.length + _) + _ ≤ _
    omega
  · obtain ⟨d1, d2⟩ := h.dn i hi
    have g3 : u.last ≤ _ := g3
    refine ⟨Nat.le_trans d1 g3, fun hm => ?_⟩
    rcases g6 _ hm with e | e
    · exact d2 e
    · have e : (u.last : Int) < i := e; omega
  · have := h.tk t ht
    have g3 : u.last ≤ (runF PV.step { u with bs := [] } A).last := g3
    show 1 ≤ t ∧ t ≤ ((runF PV.step { u with bs := [] } A).last : Int)
    omega
theorem HI.down (h : HI n v u made now R Dn Rp T) (hc : v.closed = false) (hn : n < 41) (m : Nat) : (v.recv (u.out.take m)).2 = 0 ∧ (v.recv (u.out.take m)).1.closed = false ∧ HI (n + 1) (v.recv (u.out.take m)).1 { u with out := u.out.drop m } made now R Dn Rp T := by
  have h1 := h.sz
  have hmn := h.mn
  obtain ⟨FD, k1, k2⟩ := h.fd
  have htl : (u.out.take m).length ≤ u.out.length := by rw [List.length_take]; omega
  have htd : (u.out.take m).length + (u.out.drop m).length = u.out.length := by rw [List.length_take, List.length_drop]; omega
  have hbs : (v.bs ++ u.out.take m) ++ u.out.drop m = encA FD := by rw [List.append_assoc, List.take_append_drop]; exact k1
  have hok0 := (runC (made := made) (by omega) FD { v with bs := [] } k2 h.vlast h.ci).1
  obtain ⟨A, B, bs', e1, e2, e3, e4⟩ := rcv_run PC.step (v.bs.length + (u.out.take m).length + 1) { v with bs := [] } FD (v.bs ++ u.out.take m) (u.out.drop m) hbs hok0 (by rw [List.length_append]; omega)
  subst e1
  obtain ⟨-, g1, g2⟩ := runC (made := made) (by omega) A { v with bs := [] } (fun f hf => k2 f (List.mem_append_left _ hf)) h.vlast h.ci
  have hrec : v.recv (u.out.take m) = ({ runF PC.step { v with bs := [] } A with bs := bs', rb := 0, br := 0 }, 0) := by
    unfold PC.recv
    rw [if_neg (by rw [h.vbr, hc]; simp), if_neg (by omega)]
    simp only [e2, if_true]
  rw [hrec]
  rw [List.length_append] at e4
  obtain ⟨cs, rs, hcs⟩ : ∃ cs rs, runF PC.step { v with bs := [] } A = { ({ v with bs := [] } : PC) with calls := cs, res := rs } := ⟨_, _, g2⟩
  rw [hcs] at g1 ⊢
  refine ⟨rfl, hc, ⟨rfl, rfl, h.vlast, h.vnow, h.ubr, h.urb, ⟨h.si.o32, h.si.nd, h.si.opn, h.si.qu, h.si.ql⟩, h.fu, ⟨B, e3, fun f hf => k2 f (List.mem_append_right _ hf)⟩, g1, by omega, by have := h.nn; omega, ?_, h.r0, h.r01, h.dn, h.tk⟩⟩
  show v.out.length + u.bs.length + (u.out.drop m).length + bs'.length ≤ _
  omega
theorem HI.close (h : HI n v u made now R Dn Rp T) (hc : v.closed = false) : v.close.2 = 0 ∧ v.close.1.calls = [] ∧ HI (n + 1) v.close.1 u made now R Dn Rp T := by
  unfold PC.close
  rw [if_neg (by rw [hc, h.vbr]; simp)]
  have h3 := h.mono
  refine ⟨rfl, ?_, ⟨h3.vbr, h3.vrb, h3.vlast, h3.vnow, h3.ubr, h3.urb, h3.si, h3.fu, h3.fd, h.ci.endW fun c _ _ => .inr ⟨rfl, .inr (.inl rfl)⟩, h3.mn, h3.nn, h3.sz, h3.r0, h3.r01, h3.dn, h3.tk⟩⟩
  show v.calls.filter (nq allQ) = []
  exact List.filter_eq_nil_iff.2 fun c _ => by simp [nq, allQ]
theorem HI.pop (h : HI n v u made now R Dn Rp T) {r : Res} {rest : List Res} (he : v.res = r :: rest) : 1 ≤ r.id ∧ r.id ≤ made ∧ R r.id.toNat = 0 ∧ OkR Dn Rp r ∧ HI n { v with res := rest } u made now (updF R r.id.toNat 1) Dn Rp T := by
  have hci := h.ci
  rw [he] at hci
  obtain ⟨g1, g2, g3, g4, g5⟩ := hci.pop
  refine ⟨g2, g3, g4, g5, ⟨h.vbr, h.vrb, h.vlast, h.vnow, h.ubr, h.urb, h.si, h.fu, h.fd, g1, h.mn, h.nn, h.sz, fun i hi => ?_, fun i => ?_, h.dn, h.tk⟩⟩
  · unfold updF; rw [if_neg (by omega)]; exact h.r0 i hi
  · unfold updF; split
    · exact .inr rfl
    · exact h.r01 i
theorem HI.fin (h : HI n v u made now R Dn Rp T) (hc : v.calls = []) (hr : v.res = []) {i : Nat} (h1 : 1 ≤ i) (h2 : i ≤ made) : R i = 1 := by
  rcases h.r01 i with e | e
  · have := (h.ci.mem i).2 ⟨h1, h2, e⟩
    rw [hc, hr] at this
    cases this
  · exact e
end
theorem hi_new : HI 0 pc0 pv0 0 0 (fun _ => 0) (fun _ => false) (fun _ => []) [] :=
  ⟨rfl, rfl, rfl, rfl, rfl, rfl, ⟨by decide, List.nodup_nil, (fun i hi => by cases hi), (fun i hi => by cases hi), Nat.le_refl _⟩, ⟨[], rfl, rfl⟩, ⟨[], rfl, fun f hf => by cases hf⟩,
    ⟨List.nodup_nil, (fun i => Iff.intro (fun hi => (by cases hi)) (fun hi => (by obtain ⟨a, b, _⟩ := hi; omega))), (fun i hi => by cases hi), (fun r hr => by cases hr), Nat.le_refl _, by decide, (fun c hc => by cases hc)⟩, Nat.le_refl _, Nat.le_refl _, Nat.le_refl _, fun _ _ => rfl, fun _ => .inl rfl, (fun i hi => by cases hi), (fun t ht => by cases ht)⟩
end Go.Proofs.Ytdelhikejgoffaa
end
section
set_option linter.unusedVariables false
set_option maxRecDepth 20000
set_option maxHeartbeats 2000000
namespace Go.Proofs.Ytdelhikejgoffaa
/-- A move, and where its data lies. -/
structure Mv where
  what : Int
  n : Int
  oa : Option Addr
  en : Ent
  c : Nat
  data : Bs
abbrev encMv (m : Mv) : List Value := [.int .i64 m.what, .int .i64 m.n, .slice m.oa m.data.length m.c]
abbrev encP (s : ByteArray) : List Value := [.string s]
abbrev encD (b : Bool) : List Value := [.bool b]
theorem encP1 (s : ByteArray) : (encP s).length = 1 := rfl
theorem encD1 (b : Bool) : (encD b).length = 1 := rfl
def fR (L : List Int) (i : Nat) : Int := L.getD i 0
def fD (L : List Bool) (i : Nat) : Bool := L.getD i false
def fP (L : List ByteArray) (i : Nat) : Bs := byt (L.getD i ⟨#[]⟩)
theorem fR_set {L : List Int} {i : Nat} (h : i < L.length) (x : Int) : fR (L.set i x) = updF (fR L) i x := by
  funext j
  unfold fR updF
  rw [List.getD_eq_getElem?_getD, List.getElem?_set]
  by_cases e : i = j
  · subst e; rw [if_pos rfl, if_pos h, if_pos rfl]; rfl
  · rw [if_neg e, if_neg (fun q => e q.symm)]; exact (List.getD_eq_getElem?_getD ..).symm
theorem fD_set {L : List Bool} {i : Nat} (h : i < L.length) : fD (L.set i true) = updB (fD L) i := by
  funext j
  unfold fD updB
  rw [List.getD_eq_getElem?_getD, List.getElem?_set]
  by_cases e : i = j
  · subst e; rw [if_pos rfl, if_pos h, if_pos rfl]; rfl
  · rw [if_neg e, if_neg (fun q => e q.symm)]; exact (List.getD_eq_getElem?_getD ..).symm
theorem fP_set {L : List ByteArray} {i : Nat} (h : i < L.length) (s : ByteArray) : fP (L.set i s) = updP (fP L) i (byt s) := by
  funext j
  unfold fP updP
  rw [List.getD_eq_getElem?_getD, List.getElem?_set]
  by_cases e : i = j
  · subst e; rw [if_pos rfl, if_pos h, if_pos rfl]; rfl
  · rw [if_neg e, if_neg (fun q => e q.symm)]; exact congrArg byt (List.getD_eq_getElem?_getD ..).symm
theorem fR_at {L : List Int} {i : Nat} (h : i < L.length) : L[i]? = some (fR L i) := by unfold fR; rw [List.getD_eq_getElem?_getD, List.getElem?_eq_getElem h]; rfl
theorem fD_at {L : List Bool} {i : Nat} (h : i < L.length) : L[i]? = some (fD L i) := by unfold fD; rw [List.getD_eq_getElem?_getD, List.getElem?_eq_getElem h]; rfl
theorem fP_at {L : List ByteArray} {i : Nat} (h : i < L.length) : ∃ s, L[i]? = some s ∧ fP L i = byt s := by unfold fP; rw [List.getD_eq_getElem?_getD, List.getElem?_eq_getElem h]; exact ⟨_, rfl, rfl⟩
theorem fR0 : fR (List.replicate 41 0) = fun _ => 0 := by
  funext i
  unfold fR
  rw [List.getD_eq_getElem?_getD, List.getElem?_replicate]; split <;> rfl
theorem fD0 : fD (List.replicate 41 false) = fun _ => false := by
  funext i
  unfold fD
  rw [List.getD_eq_getElem?_getD, List.getElem?_replicate]; split <;> rfl
theorem fP0 : fP (List.replicate 41 ⟨#[]⟩) = fun _ => [] := by
  funext i
  unfold fP
  rw [List.getD_eq_getElem?_getD, List.getElem?_replicate]; split <;> rfl
structure HoW where
  i : Nat
  g : CG
  h : SG
  v : PC
  u : PV
  made : Nat
  now : Nat
  LR : List Int
  LP : List ByteArray
  LD : List Bool
  T : List Int
  oT : Option Nat
  cT : Nat
  tT : List Value
structure HoD where
  k : Nat
  g : CG
  v : PC
  LR : List Int
theorem clampN (n : Int) : ∃ m : Nat, max 0 (min 600 n) = (m : Int) ∧ m ≤ 600 := ⟨(max 0 (min 600 n)).toNat, by omega, by omega⟩
theorem mem_out {DH : Heap} {e : Ent} (h : e ∈ DH) : ∃ G, DH.Perm (e :: G) := by
  obtain ⟨a, b, rfl⟩ := List.append_of_mem h
  exact ⟨a ++ b, List.perm_middle⟩
end Go.Proofs.Ytdelhikejgoffaa
end
section
set_option linter.unusedVariables false
set_option maxRecDepth 20000
set_option maxHeartbeats 4000000
namespace Go.Proofs.Ytdelhikejgoffaa
theorem known_ok : Spec Try.prog 13 [] [] (fun r H' => r = .bool true ∧ H' = []) := by
  refine Spec.of (E := []) Try.func13 rfl (by kernel_rfl) Try.ntmps13 rfl rfl (fun w => ?_)
  refine WC_seq ?_
  refine WC_region ?_
  refine WL_val rfl rfl rfl (R_assign rfl rfl) ?_
  refine WL_nil ?_
  refine WQ_code ?_
  refine WC_seq ?_
  refine WC_region ?_
  refine WL_val rfl rfl rfl (R_build rfl zv34 pl34 rfl rfl) ?_
  refine WL_do rfl rfl rfl (D_box (cs := [_, _, _, _, _, _, _, _, _]) rfl rfl rfl) ?_
  rintro _ _ ⟨b1, rfl, rfl⟩
  obtain ⟨gpc0, hpc0, hx1⟩ := c_new b1
  refine WL_turn hx1 plD ?_
  refine WL_val rfl rfl rfl (R_build rfl zv39 pl39 rfl rfl) ?_
  refine WL_do rfl rfl rfl (D_box (cs := [_, _, _, _, _, _, _]) rfl rfl rfl) ?_
  rintro _ _ ⟨b2, rfl, rfl⟩
  obtain ⟨gpv0, hpv0, hx2⟩ := s_new b2
  refine WL_turn hx2 plD ?_
  refine WL_val rfl rfl rfl (R_assign rfl rfl) ?_
  refine WL_val rfl rfl rfl (R_assign rfl rfl) ?_
  refine WL_nil ?_
  refine WQ_code ?_
  refine WC_seq ?_
  refine WC_seq ?_
  refine WC_region ?_
  refine WL_val rfl rfl rfl (R_move rfl rfl) ?_
  refine WL_do rfl rfl rfl (D_call (calls_ok hpc0 pc0b _ 10 (by omega) 1 0) rfl rfl rfl rfl (pqD)) ?_
  rintro _ _ ⟨_, ⟨gkc1, hkc1, rfl, rfl⟩, rfl⟩
  refine WL_set (s := 10) (v := .bool true) rfl (by exact congrArg Value.bool (decide_eq_true kf1)) ?_
  have hkc1 : CGd gkc1 b1 kc1 := hkc1
  refine WL_val rfl rfl rfl (R_not rfl rfl) ?_
  refine WL_val rfl rfl rfl (R_move rfl rfl) ?_
  refine WL_val rfl rfl rfl (R_move rfl rfl) ?_
  refine WL_do rfl rfl rfl (D_call (calls_ok hkc1 kc1b _ 5 (by omega) 2 0) rfl rfl rfl rfl (pqD)) ?_
  rintro _ _ ⟨_, ⟨gkc2, hkc2, rfl, rfl⟩, rfl⟩
  refine WL_set (s := 14) (v := .bool true) rfl (by exact congrArg Value.bool (decide_eq_true kf2)) ?_
  have hkc2 : CGd gkc2 b1 kc2 := hkc2
  refine WL_val rfl rfl rfl (R_not rfl rfl) ?_
  refine WL_val rfl rfl rfl (R_pickF rfl rfl rfl) ?_
  refine WL_val rfl rfl rfl (R_move rfl rfl) ?_
  refine WL_val rfl rfl rfl (R_move rfl rfl) ?_
  refine WL_do rfl rfl rfl (D_call (calls_ok hkc2 kc2b _ 0 (by omega) 0 2) rfl rfl rfl rfl (pqD)) ?_
  rintro _ _ ⟨_, ⟨gkc3, hkc3, rfl, rfl⟩, rfl⟩
  refine WL_set (s := 19) (v := .bool true) rfl (by exact congrArg Value.bool (decide_eq_true kf3)) ?_
  have hkc3 : CGd gkc3 b1 kc3 := hkc3
  refine WL_val rfl rfl rfl (R_not rfl rfl) ?_
  refine WL_val rfl rfl rfl (R_pickF rfl rfl rfl) ?_
  refine WL_val rfl rfl rfl (R_move rfl rfl) ?_
  refine WL_val rfl rfl rfl (R_move rfl rfl) ?_
  refine WL_val rfl rfl rfl (R_move rfl rfl) ?_
  refine WL_do rfl rfl rfl (D_call (up_ok hkc3 kc3b hpv0 pv0b) rfl rfl rfl rfl (pqD)) ?_
  rintro _ _ ⟨_, ⟨gkc4, gks1, hkc4, hks1, rfl, rfl⟩, rfl⟩
  refine WL_set (s := 25) (v := .bool true) rfl (by exact congrArg Value.bool (decide_eq_true kf4)) ?_
  have hkc4 : CGd gkc4 b1 kc4 := hkc4
  have hks1 : SGd gks1 b2 ks1 := hks1
  refine WL_val rfl rfl rfl (R_not rfl rfl) ?_
  refine WL_val rfl rfl rfl (R_pickF rfl rfl rfl) ?_
  refine WL_val rfl rfl rfl (R_move rfl rfl) ?_
  refine WL_val rfl rfl rfl (R_move rfl rfl) ?_
  refine WL_do rfl rfl rfl (D_call (asks_ok hks1 ks1b 1 10 _) rfl rfl rfl rfl (pqD)) ?_
  rintro _ _ ⟨_, ⟨gks2, hks2, rfl, rfl⟩, rfl⟩
  refine WL_set (s := 30) (v := .bool true) rfl (by exact congrArg Value.bool kf5) ?_
  have hks2 : SGd gks2 b2 ks2 := hks2
  refine WL_val rfl rfl rfl (R_not rfl rfl) ?_
  refine WL_val rfl rfl rfl (R_pickF rfl rfl rfl) ?_
  refine WL_val rfl rfl rfl (R_move rfl rfl) ?_
  refine WL_val rfl rfl rfl (R_move rfl rfl) ?_
  refine WL_do rfl rfl rfl (D_call (asks_ok hks2 ks2b 2 5 _) rfl rfl rfl rfl (pqD)) ?_
  rintro _ _ ⟨_, ⟨gks3, hks3, rfl, rfl⟩, rfl⟩
  refine WL_set (s := 35) (v := .bool true) rfl (by exact congrArg Value.bool kf6) ?_
  have hks3 : SGd gks3 b2 ks3 := hks3
  refine WL_val rfl rfl rfl (R_not rfl rfl) ?_
  refine WL_val rfl rfl rfl (R_pickF rfl rfl rfl) ?_
  refine WL_nil ?_
  refine WQ_code ?_
  refine WC_F rfl ?_
  refine WC_skip ?_
  refine WQ_code ?_
  refine WC_seq ?_
  refine WC_seq ?_
  refine WC_region ?_
  refine WL_val rfl rfl rfl (R_move rfl rfl) ?_
  refine WL_do rfl rfl rfl (D_buildSlice rfl si23 rfl rfl rfl) ?_
  rintro _ _ ⟨b3, rfl, rfl⟩
  refine WL_do rfl rfl rfl (D_bytesConst rfl Try.underlying23 Try.underlying5 rfl plD) ?_
  rintro _ _ ⟨frb3, rfl, rfl⟩
  refine WL_do rfl rfl rfl (D_call (s_reply hks3 ks3b 1 0 (body := [121, 101, 115]) (RdB.cst b3 [121, 101, 115]) (by decide)) rfl rfl rfl rfl (pqD)) ?_
  rintro _ _ ⟨_, ⟨gks4, hks4, rfl, rfl⟩, rfl⟩
  have hks4 : SGd gks4 b2 ks4 := hks4
  refine WL_val rfl rfl rfl (R_neq rfl rfl rfl) ?_
  refine WL_set (s := 42) (v := .bool false) rfl (by exact congrArg Value.bool (decide_eq_false (fun e => e kf7))) ?_
  refine WL_val rfl rfl rfl (R_move rfl rfl) ?_
  refine WL_val rfl rfl rfl (R_move rfl rfl) ?_
  refine WL_val rfl rfl rfl (R_move rfl rfl) ?_
  refine WL_do rfl rfl rfl (D_call (down_ok hkc4 kc4b hks4 ks4b) rfl rfl rfl rfl (pqD)) ?_
  rintro _ _ ⟨_, ⟨gkc5, gks5, hks5, hkc5, rfl, rfl⟩, rfl⟩
  refine WL_set (s := 46) (v := .bool true) rfl (by exact congrArg Value.bool (decide_eq_true kf8)) ?_
  have hkc5 : CGd gkc5 b1 kc5 := hkc5
  have hks5 : SGd gks5 b2 ks5 := hks5
  refine WL_val rfl rfl rfl (R_not rfl rfl) ?_
  refine WL_val rfl rfl rfl (R_pickF rfl rfl rfl) ?_
  refine WL_val rfl rfl rfl (R_move rfl rfl) ?_
  refine WL_val rfl rfl rfl (R_move rfl rfl) ?_
  refine WL_do rfl rfl rfl (D_call (ends_ok hkc5 kc5b 1 0 _ (fun r hr => of_decide_eq_true (List.all_eq_true.1 kf10 r hr))) rfl rfl rfl rfl (pqD)) ?_
  rintro _ _ ⟨_, ⟨gkc6, hkc6, rfl, rfl⟩, rfl⟩
  refine WL_set (s := 51) (v := .bool true) rfl (by exact congrArg Value.bool kf9) ?_
  have hkc6 : CGd gkc6 b1 kc6 := hkc6
  refine WL_val rfl rfl rfl (R_not rfl rfl) ?_
  refine WL_val rfl rfl rfl (R_pickF rfl rfl rfl) ?_
  refine WL_val rfl rfl rfl (R_move rfl rfl) ?_
  refine WL_val rfl rfl rfl (R_move rfl rfl) ?_
  refine WL_do rfl rfl rfl (D_buildSlice rfl si23 rfl rfl rfl) ?_
  rintro _ _ ⟨b4, rfl, rfl⟩
  refine WL_do rfl rfl rfl (D_bytesConst rfl Try.underlying23 Try.underlying5 rfl plD) ?_
  rintro _ _ ⟨frb4, rfl, rfl⟩
  refine WL_do rfl rfl rfl (D_call (s_reply hks5 ks5b 1 0 (body := [110, 111]) (RdB.cst b4 [110, 111]) (by decide)) rfl rfl rfl rfl (pqD)) ?_
  rintro _ _ ⟨_, ⟨gks6, hks6, rfl, rfl⟩, rfl⟩
  have hks6 : SGd gks6 b2 ks6 := hks6
  refine WL_val rfl rfl rfl (R_neq rfl rfl rfl) ?_
  refine WL_set (s := 59) (v := .bool false) rfl (by exact congrArg Value.bool (decide_eq_false (fun e => e kf11))) ?_
  refine WL_val rfl rfl rfl (R_pickF rfl rfl rfl) ?_
  refine WL_nil ?_
  refine WQ_code ?_
  refine WC_F rfl ?_
  refine WC_skip ?_
  refine WQ_code ?_
  refine WC_seq ?_
  refine WC_seq ?_
  refine WC_region ?_
  refine WL_val rfl rfl rfl (R_move rfl rfl) ?_
  refine WL_do rfl rfl rfl (D_call (k_adv hkc6 kc6b 5) rfl rfl rfl rfl (pqD)) ?_
  rintro _ _ ⟨_, ⟨gkc7, hkc7, rfl, rfl⟩, rfl⟩
  have hkc7 : CGd gkc7 b1 kc7 := hkc7
  refine WL_val rfl rfl rfl (R_neq rfl rfl rfl) ?_
  refine WL_set (s := 63) (v := .bool false) rfl (by exact congrArg Value.bool (decide_eq_false (fun e => e kf12))) ?_
  refine WL_val rfl rfl rfl (R_move rfl rfl) ?_
  refine WL_val rfl rfl rfl (R_move rfl rfl) ?_
  refine WL_do rfl rfl rfl (D_call (ends_ok hkc7 kc7b 2 12 _ (fun r hr => of_decide_eq_true (List.all_eq_true.1 kf14 r hr))) rfl rfl rfl rfl (pqD)) ?_
  rintro _ _ ⟨_, ⟨gkc8, hkc8, rfl, rfl⟩, rfl⟩
  refine WL_set (s := 66) (v := .bool true) rfl (by exact congrArg Value.bool kf13) ?_
  have hkc8 : CGd gkc8 b1 kc8 := hkc8
  refine WL_val rfl rfl rfl (R_not rfl rfl) ?_
  refine WL_val rfl rfl rfl (R_pickF rfl rfl rfl) ?_
  refine WL_val rfl rfl rfl (R_move rfl rfl) ?_
  refine WL_val rfl rfl rfl (R_move rfl rfl) ?_
  refine WL_val rfl rfl rfl (R_move rfl rfl) ?_
  refine WL_do rfl rfl rfl (D_call (up_ok hkc8 kc8b hks6 ks6b) rfl rfl rfl rfl (pqD)) ?_
  rintro _ _ ⟨_, ⟨gkc9, gks7, hkc9, hks7, rfl, rfl⟩, rfl⟩
  refine WL_set (s := 72) (v := .bool true) rfl (by exact congrArg Value.bool (decide_eq_true kf15)) ?_
  have hkc9 : CGd gkc9 b1 kc9 := hkc9
  have hks7 : SGd gks7 b2 ks7 := hks7
  refine WL_val rfl rfl rfl (R_not rfl rfl) ?_
  refine WL_val rfl rfl rfl (R_pickF rfl rfl rfl) ?_
  refine WL_val rfl rfl rfl (R_move rfl rfl) ?_
  refine WL_val rfl rfl rfl (R_move rfl rfl) ?_
  refine WL_do rfl rfl rfl (D_call (s_open hks7 ks7b) rfl rfl rfl rfl (pqD)) ?_
  rintro _ _ ⟨_, ⟨oq, cq, tq, rfl, ownq, rfl⟩, rfl⟩
  refine WL_val rfl rfl rfl (R_len rfl Try.underlying36 rfl) ?_
  refine WL_val rfl rfl rfl (R_neq rfl rfl rfl) ?_
  refine WL_set (s := 79) (v := .bool false) rfl (by exact congrArg Value.bool (decide_eq_false (fun e => e (by rw [kf16]; rfl)))) ?_
  refine WL_val rfl rfl rfl (R_pickF rfl rfl rfl) ?_
  refine WL_val rfl rfl rfl (R_move rfl rfl) ?_
  refine WL_val rfl rfl rfl (R_move rfl rfl) ?_
  refine WL_none 5 ?_
  refine WL_do rfl rfl rfl (D_call (s_reply hks7 ks7b 2 0 (body := []) (RdB.nil none ⟨none, cl [] 5⟩) (by decide)) rfl rfl rfl rfl (pqD)) ?_
  rintro _ _ ⟨_, ⟨gks8, hks8, rfl, rfl⟩, rfl⟩
  have hks8 : SGd gks8 b2 ks8 := hks8
  refine WL_val rfl rfl rfl (R_neq rfl rfl rfl) ?_
  refine WL_set (s := 84) (v := .bool false) rfl (by exact congrArg Value.bool (decide_eq_false (fun e => e kf17))) ?_
  refine WL_val rfl rfl rfl (R_pickF rfl rfl rfl) ?_
  refine WL_nil ?_
  refine WQ_code ?_
  refine WC_F rfl ?_
  refine WC_skip ?_
  refine WQ_code ?_
  refine WC_seq ?_
  refine WC_seq ?_
  refine WC_region ?_
  refine WL_val rfl rfl rfl (R_move rfl rfl) ?_
  refine WL_do rfl rfl rfl (D_call (calls_ok hkc9 kc9b _ 9 (by omega) 3 0) rfl rfl rfl rfl (pqD)) ?_
  rintro _ _ ⟨_, ⟨gkc10, hkc10, rfl, rfl⟩, rfl⟩
  refine WL_set (s := 87) (v := .bool true) rfl (by exact congrArg Value.bool (decide_eq_true kf18)) ?_
  have hkc10 : CGd gkc10 b1 kc10 := hkc10
  refine WL_val rfl rfl rfl (R_not rfl rfl) ?_
  refine WL_val rfl rfl rfl (R_move rfl rfl) ?_
  refine WL_val rfl rfl rfl (R_move rfl rfl) ?_
  refine WL_val rfl rfl rfl (R_move rfl rfl) ?_
  refine WL_do rfl rfl rfl (D_call (up_ok hkc10 kc10b hks8 ks8b) rfl rfl rfl rfl (pqD)) ?_
  rintro _ _ ⟨_, ⟨gkc11, gks9, hkc11, hks9, rfl, rfl⟩, rfl⟩
  refine WL_set (s := 92) (v := .bool true) rfl (by exact congrArg Value.bool (decide_eq_true kf19)) ?_
  have hkc11 : CGd gkc11 b1 kc11 := hkc11
  have hks9 : SGd gks9 b2 ks9 := hks9
  refine WL_val rfl rfl rfl (R_not rfl rfl) ?_
  refine WL_val rfl rfl rfl (R_pickF rfl rfl rfl) ?_
  refine WL_val rfl rfl rfl (R_move rfl rfl) ?_
  refine WL_val rfl rfl rfl (R_move rfl rfl) ?_
  refine WL_do rfl rfl rfl (D_call (k_cancel hkc11 kc11b 3) rfl rfl rfl rfl (pqD)) ?_
  rintro _ _ ⟨_, ⟨gkc12, hkc12, rfl, rfl⟩, rfl⟩
  have hkc12 : CGd gkc12 b1 kc12 := hkc12
  refine WL_val rfl rfl rfl (R_neq rfl rfl rfl) ?_
  refine WL_set (s := 98) (v := .bool false) rfl (by exact congrArg Value.bool (decide_eq_false (fun e => e kf20))) ?_
  refine WL_val rfl rfl rfl (R_pickF rfl rfl rfl) ?_
  refine WL_val rfl rfl rfl (R_move rfl rfl) ?_
  refine WL_val rfl rfl rfl (R_move rfl rfl) ?_
  refine WL_val rfl rfl rfl (R_move rfl rfl) ?_
  refine WL_do rfl rfl rfl (D_call (up_ok hkc12 kc12b hks9 ks9b) rfl rfl rfl rfl (pqD)) ?_
  rintro _ _ ⟨_, ⟨gkc13, gks10, hkc13, hks10, rfl, rfl⟩, rfl⟩
  refine WL_set (s := 103) (v := .bool true) rfl (by exact congrArg Value.bool (decide_eq_true kf21)) ?_
  have hkc13 : CGd gkc13 b1 kc13 := hkc13
  have hks10 : SGd gks10 b2 ks10 := hks10
  refine WL_val rfl rfl rfl (R_not rfl rfl) ?_
  refine WL_val rfl rfl rfl (R_pickF rfl rfl rfl) ?_
  refine WL_val rfl rfl rfl (R_move rfl rfl) ?_
  refine WL_val rfl rfl rfl (R_move rfl rfl) ?_
  refine WL_do rfl rfl rfl (D_call (k_cancel hkc13 kc13b 3) rfl rfl rfl rfl (pqD)) ?_
  rintro _ _ ⟨_, ⟨gkc14, hkc14, rfl, rfl⟩, rfl⟩
  have hkc14 : CGd gkc14 b1 kc14 := hkc14
  refine WL_val rfl rfl rfl (R_neq rfl rfl rfl) ?_
  refine WL_set (s := 109) (v := .bool false) rfl (by exact congrArg Value.bool (decide_eq_false (fun e => e kf22))) ?_
  refine WL_val rfl rfl rfl (R_pickF rfl rfl rfl) ?_
  refine WL_val rfl rfl rfl (R_move rfl rfl) ?_
  refine WL_val rfl rfl rfl (R_move rfl rfl) ?_
  refine WL_do rfl rfl rfl (D_call (ends_ok hkc14 kc14b 3 14 _ (fun r hr => of_decide_eq_true (List.all_eq_true.1 kf24 r hr))) rfl rfl rfl rfl (pqD)) ?_
  rintro _ _ ⟨_, ⟨gkc15, hkc15, rfl, rfl⟩, rfl⟩
  refine WL_set (s := 113) (v := .bool true) rfl (by exact congrArg Value.bool kf23) ?_
  have hkc15 : CGd gkc15 b1 kc15 := hkc15
  refine WL_val rfl rfl rfl (R_not rfl rfl) ?_
  refine WL_val rfl rfl rfl (R_pickF rfl rfl rfl) ?_
  refine WL_nil ?_
  refine WQ_code ?_
  refine WC_F rfl ?_
  refine WC_skip ?_
  refine WQ_code ?_
  refine WC_seq ?_
  refine WC_region ?_
  refine WL_val rfl rfl rfl (R_move rfl rfl) ?_
  refine WL_do rfl rfl rfl (D_call (s_next0 hks10 ks10b kf25) rfl rfl rfl rfl (pqD)) ?_
  rintro _ _ ⟨_, ⟨gl9, hl9, rfl, rfl⟩, rfl⟩
  refine WL_val rfl rfl rfl (R_move rfl rfl) ?_
  refine WL_val rfl rfl rfl (R_extract rfl rfl rfl) ?_
  refine WL_val rfl rfl rfl (R_extract rfl rfl rfl) ?_
  refine WL_do rfl rfl rfl (D_alloc rfl zv60) ?_
  rintro _ _ ⟨b5, rfl, rfl⟩
  refine WL_do0 rfl rfl (D_store (vs := [_, _, _]) rfl Try.sizeOf60 rfl rfl rfl rfl rfl (plD) (by exact Nat.le_of_ble_eq_true rfl)) ?_
  rintro _ _ rfl
  refine WL_val rfl rfl rfl (R_assign rfl rfl) ?_
  refine WL_nil ?_
  refine WQ_code ?_
  refine WC_seq ?_
  refine WC_region ?_
  refine WL_val rfl rfl rfl (R_move rfl rfl) ?_
  refine WL_val rfl rfl rfl (R_not rfl rfl) ?_
  refine WL_val rfl rfl rfl (R_assign rfl rfl) ?_
  refine WL_nil ?_
  refine WQ_code ?_
  refine WC_ret ?_
  refine WQ_ret rfl rfl (.cons (.tmp rfl) .nil) rfl (by
      exact ⟨rfl, rfl⟩) (pqD)
end Go.Proofs.Ytdelhikejgoffaa
end
