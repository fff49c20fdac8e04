/-
  Chapter 48 (balance), part Step2: contracts of functions that the laws call, each for the heap it names.
-/
import Derived.Test.YtiokpmgbabpikaaRows
import Derived.Test.YtiokpmgbabpikaaZSLOpt
import Derived.Test.YtiokpmgbabpikaaTab
import Derived.Test.YtiokpmgbabpikaaStepM
import Derived.Test.YtiokpmgbabpikaaStep1
import Derived.Test.YtiokpmgbabpikaaSLPart
set_option linter.unusedVariables false
set_option maxRecDepth 20000
set_option maxHeartbeats 8000000
namespace Go.Proofs.Ytiokpmgbabpikaa


theorem st_pick {N : Nat} {m : Bm} {s : BS} {l : Lm} (hb : BIs N m s) (hl : LmIs N l) (hr : Rel s l) (hN : N ≤ 8000) (wt n : Int) (now : Nat) (key : ByteArray) (good : Bool) (h1 : l.last ≤ now) (h2 : now ≤ 18446744073709551614) (h0 : wt = 0) (hk : key.size ≤ 64) (hne : s.cand now ≠ []) : Spec Try.prog 15 [ptrB m.p, lmV l, .agg #[.int .i64 wt, .int .i64 n, .int .u64 (now : Int), .string key, .bool good]] (balH m ++ lmH l) (fun r H' => ∃ m2 s2 l2, r = .tuple #[ptrB m2.p, lmV l2, .bool true] ∧ H' = balH m2 ++ lmH l2 ∧ BIs (N + 1) m2 s2 ∧ LmIs (N + 1) l2 ∧ Rel s2 l2) := by
  have hml : m.last = l.last := hb.last.trans hr.last.symm
  have hsl : s.last = l.last := hr.last.symm
  have hln : l.n = s.V.length := by rw [← hl.hn, cq_len (hr.to hb), hb.is.hn]; exact hb.len
  have hnn := hl.n
  have hgv : s.gv = l.gv := hr.gv.symm
  have hglv := hl.gv
  have hcll := hl.cl
  obtain ⟨i, x9, hi, hx9, _, hrd⟩ := cand_mem (pickI_mem l.kd l.L l.nx key (l := cand l.L now) (by rw [hr.candE]; exact hne))
  have hpi : s.pickI key now = (i : Int) := by rw [← hr.pick]; exact hi
  have hch : chI l.kd l.L l.nx key (cand l.L now) = (i : Int) := by unfold chI; rw [if_neg (by rw [hr.candE]; exact hne)]; exact hi
  have hil : i < l.n := by rw [← hl.hn]; exact (List.getElem?_eq_some_iff.1 hx9).1
  have hhn := hl.hn
  obtain ⟨y9, hy9⟩ := getE (T := chL l.kd l.L l.nx key (cand l.L now)) (i := i) (by rw [chL_len]; omega)
  obtain ⟨x8, hx8, e8⟩ := chL_get (hr.w hb) hy9
  obtain rfl : x8 = x9 := by rw [hx9] at hx8; exact (Option.some.inj hx8).symm
  obtain ⟨s1, rfl⟩ : ∃ s, y9 = { x8 with sh := s } := ⟨y9.sh, e8⟩
  have hfx := hr.fit hb (now := now) (by omega) x8 (List.mem_of_getElem? hx9)
  have hax := hr.act hb x8 (List.mem_of_getElem? hx9)
  have hil2 : i < (chL l.kd l.L l.nx key (cand l.L now)).length := by rw [chL_len]; omega
  have hS : lpS l key now i = (chL l.kd l.L l.nx key (cand l.L now)).set i { x8 with sh := s1, act := x8.act + 1, b := alB x8.b now } := by unfold lpS; rw [gB_at hy9, gB_at hx9]
  have hSe : ((chL l.kd l.L l.nx key (cand l.L now)).set i { x8 with sh := s1, act := x8.act + 1 }).flatMap encLB = (lpS l key now i).flatMap encLB := by
    rw [hS, List.flatMap_def, List.flatMap_def, List.map_set, List.map_set]
  have hSb : bks (l.L.set i { x8 with b := alB x8.b now }) = bks (lpS l key now i) := by
    have e := chL_bks l.kd l.L l.nx key (cand l.L now)
    unfold bks at e ⊢
    rw [hS, List.map_set, List.map_set, e]
  have hgb : gB l.L (i : Int) = x8 := gB_at hx9
  refine Spec.of (E := [(0, ptrB m.p), (1, lmV l), (2, .agg #[.int .i64 wt, .int .i64 n, .int .u64 (now : Int), .string key, .bool good])]) Try.func15 rfl (by kernel_rfl) Try.ntmps15 rfl rfl (fun w => ?_)
  refine WC_seq ?_
  refine WC_region ?_
  refine WL_do rfl rfl rfl (D_box (cs := [_, _, _, _, _, _]) rfl rfl rfl) ?_
  rintro _ _ ⟨b1, rfl, rfl⟩
  refine WL_do rfl rfl rfl (D_box (cs := [_, _, _, _, _]) rfl rfl rfl) ?_
  rintro _ _ ⟨b2, rfl, rfl⟩
  refine WL_val rfl rfl rfl (R_assign rfl rfl) ?_
  refine WL_do rfl rfl rfl (D_alloc rfl zv45) ?_
  rintro _ _ ⟨b3, rfl, rfl⟩
  refine WL_val rfl rfl rfl (R_assign rfl rfl) ?_
  refine WL_nil ?_
  refine WQ_code ?_
  refine WC_seq ?_
  refine WC_region ?_
  refine WL_val rfl rfl rfl (R_fieldAddr rfl fa48_2 rfl) ?_
  refine WL_val rfl rfl rfl (R_load rfl sc30 rfl (mmY) rfl) ?_
  refine WL_val rfl rfl rfl (R_fieldAddr rfl fa45_5 rfl) ?_
  refine WL_val rfl rfl rfl (R_load rfl sc30 rfl (mmY) rfl) ?_
  refine WL_val rfl rfl rfl (R_lss rfl rfl rfl) ?_
  refine WL_val rfl rfl rfl (R_move rfl rfl) ?_
  refine WL_set (s := 26) (v := .bool false) rfl (by exact congrArg Value.bool (decide_eq_false (by omega))) ?_
  refine WL_val rfl rfl rfl (R_fieldAddr rfl fa48_2 rfl) ?_
  refine WL_val rfl rfl rfl (R_load rfl sc30 rfl (mmY) rfl) ?_
  refine WL_val rfl rfl rfl (R_eql rfl rfl rfl) ?_
  refine WL_val rfl rfl rfl (R_pickF rfl rfl rfl) ?_
  refine WL_val rfl rfl rfl (R_assign rfl rfl) ?_
  refine WL_nil ?_
  refine WQ_code ?_
  refine WC_seq ?_
  refine WC_seq ?_
  refine WC_region ?_
  refine WL_val rfl rfl rfl (R_fieldAddr rfl fa48_0 rfl) ?_
  refine WL_val rfl rfl rfl (R_load rfl sc3 rfl (mmY) rfl) ?_
  refine WL_nil ?_
  refine WQ_code ?_
  refine WC_block ?_
  refine WC_seq ?_
  refine WC_region ?_
  refine WL_val rfl rfl rfl (R_eql rfl rfl rfl) ?_
  refine WL_val rfl rfl rfl (R_assign rfl rfl) ?_
  refine WL_nil ?_
  refine WQ_code ?_
  refine WC_dT rfl (by exact h0) ?_
  refine WC_seq ?_
  refine WC_region ?_
  refine WL_val rfl rfl rfl (R_move rfl rfl) ?_
  refine WL_val rfl rfl rfl (R_fieldAddr rfl fa48_2 rfl) ?_
  refine WL_val rfl rfl rfl (R_load rfl sc30 rfl (mmY) rfl) ?_
  refine WL_val rfl rfl rfl (R_fieldAddr rfl fa48_3 rfl) ?_
  refine WL_val rfl rfl rfl (R_load rfl sc9 rfl (mmY) rfl) ?_
  refine WL_do rfl rfl rfl (D_call (bp_ok hb (by omega) now key hk (by omega) h2 hne) rfl rfl rfl rfl (pqY)) ?_
  rintro _ _ ⟨_, ⟨m2, rfl, rfl, hp2, g2⟩, rfl⟩
  rw [hpi, hgv, ← hp2]
  refine WL_val rfl rfl rfl (R_move rfl rfl) ?_
  refine WL_val rfl rfl rfl (R_extract rfl rfl rfl) ?_
  refine WL_val rfl rfl rfl (R_extract rfl rfl rfl) ?_
  refine WL_do rfl rfl rfl (D_alloc rfl zv36) ?_
  rintro _ _ ⟨b4, rfl, rfl⟩
  refine WL_do0 rfl rfl (D_store (vs := [_, _]) rfl Try.sizeOf36 rfl rfl rfl rfl rfl (plY) (by exact Nat.le_of_ble_eq_true rfl)) ?_
  rintro _ _ rfl
  refine WL_val rfl rfl rfl (R_assign rfl rfl) ?_
  refine WL_nil ?_
  refine WQ_code ?_
  refine WC_seq ?_
  refine WC_seq ?_
  refine WC_region ?_
  refine WL_val rfl rfl rfl (R_fieldAddr rfl fa48_3 rfl) ?_
  refine WL_val rfl rfl rfl (R_load rfl sc9 rfl (mmY) rfl) ?_
  refine WL_val rfl rfl rfl (R_lenStr rfl Try.underlying9 rfl) ?_
  refine WL_val rfl rfl rfl (R_gtr rfl rfl rfl) ?_
  refine WL_nil ?_
  refine WQ_code ?_
  refine WC_dF rfl (by omega) ?_
  refine WC_skip ?_
  refine WQ_code ?_
  refine WC_seq ?_
  refine WC_seq ?_
  refine WC_region ?_
  refine WL_val rfl rfl rfl (R_move rfl rfl) ?_
  refine WL_nil ?_
  refine WQ_code ?_
  refine WC_dF rfl (by omega) ?_
  refine WC_skip ?_
  refine WQ_code ?_
  refine WC_seq ?_
  refine WC_drawB _ [(0, .q), (1, .q), (2, .q), (3, .q), (5, .q), (6, .q), (4, .n [11]), (7, .n [11]), (8, .q), (9, .q), (10, .q), (11, .b []), (12, .n []), (13, .q)] followsMixed rfl rfl (by kernel_rfl) .all ?_
  refine WB_val rfl rfl rfl rfl (R_loadA (vs := [_, _, _, _, _, _]) rfl ag45 rfl (mmY) rfl (atZ)) ?_
  refine WB_val rfl rfl rfl rfl (R_loadA (vs := [_, _, _, _, _, _]) rfl ag45 rfl (mmY) rfl (atZ)) ?_
  refine WB_val rfl rfl rfl rfl (R_fieldAddr rfl fa48_2 rfl) ?_
  refine WB_val rfl rfl rfl rfl (R_load rfl sc30 rfl (mmY) rfl) ?_
  refine WB_val rfl rfl rfl rfl (R_fieldAddr rfl fa48_3 rfl) ?_
  refine WB_val rfl rfl rfl rfl (R_load rfl sc9 rfl (mmY) rfl) ?_
  refine WB_do rfl rfl rfl rfl (.cons rfl rfl (B_alloc rfl zv45) .nil) (fun _ => D_call (lcands_ok l now hl.hn hl.n.2 (hr.fit hb (by omega)) h2) rfl rfl rfl rfl (pqY)) ?_
  rintro _ _ ⟨_, ⟨cb, rfl, rfl⟩, rfl⟩
  refine ⟨⟨_, pqY⟩, ?_⟩
  refine WB_do rfl rfl rfl rfl (.cons rfl rfl (B_alloc rfl zv45) .nil) (fun _ => D_call (lchoose_ok l N hl (by omega) (by have := hb.is.k; rw [hr.k, ← hb.k]; exact this) (hr.w hb) (hr.act hb) now cb key hk) rfl rfl rfl rfl (pqY)) ?_
  rintro _ _ ⟨_, ⟨lo2, lc2, lt2, rfl, rfl, ow2⟩, rfl⟩
  refine ⟨⟨_, pqY⟩, ?_⟩
  rw [hch]
  refine WB_val rfl rfl rfl rfl (R_move rfl rfl) ?_
  refine WB_val rfl rfl rfl rfl (R_extract rfl rfl rfl) ?_
  refine WB_val rfl rfl rfl rfl (R_extract rfl rfl rfl) ?_
  refine WB_birth rfl rfl rfl rfl .nil (B_alloc rfl zv45) (fun b5 => ?_)
  refine WB_do0 rfl rfl rfl .nil (fun _ => D_store (vs := [_, _, _, _, _, _]) rfl Try.sizeOf45 rfl rfl rfl rfl rfl (plY) (by exact Nat.le_of_ble_eq_true rfl)) ?_
  rintro _ _ rfl
  refine ⟨⟨_, pqY⟩, ?_⟩
  refine WB_val rfl rfl rfl rfl (R_assign rfl rfl) ?_
  refine WB_nil ?_
  refine WQ_code ?_
  refine WC_seq ?_
  refine WC_seq ?_
  refine WC_region ?_
  refine WL_val rfl rfl rfl (R_move rfl rfl) ?_
  refine WL_val rfl rfl rfl (R_lss rfl rfl rfl) ?_
  refine WL_nil ?_
  refine WQ_code ?_
  refine WC_dec rfl (fun c1 => ?_) (fun c1 => ?_)
  · omega
  · refine WC_none 88 ?_
    refine WC_skip ?_
    refine WQ_code ?_
    refine WC_seq ?_
    refine WC_drawR (bks l.L) [(0, true), (1, true), (2, true), (3, true), (4, true), (5, true), (6, true), (7, true), (8, false), (9, true), (10, true), (11, true), (12, true), (13, true)] followsMixed rfl rfl (by kernel_rfl) (pqY) ?_
    refine WM_val rfl rfl rfl rfl (R_fieldAddr rfl fa45_1 rfl) ?_
    refine WM_val rfl rfl rfl rfl (R_load rfl sc42 rfl (mmY) rfl) ?_
    refine WM_val rfl rfl rfl rfl (R_move rfl rfl) ?_
    refine WM_val rfl rfl rfl rfl (R_indexAddrN rfl Try.underlying42 Try.sizeOf82 rfl rfl (by omega)) ?_
    refine WM_val rfl rfl rfl rfl (R_fieldAddr rfl fa82_4 rfl) ?_
    refine WM_val rfl rfl rfl rfl (R_load (v := ptrB x8.p) rfl sc69 rfl (mmY) (fm_get0 encLB5 hy9 (j := 4) (by omega))) ?_
    refine WM_val rfl rfl rfl rfl (R_fieldAddr rfl fa48_2 rfl) ?_
    refine WM_val rfl rfl rfl rfl (R_load rfl sc30 rfl (mmY) rfl) ?_
    refine WM_do rfl rfl rfl rfl (D_call (allow_at hx9 hfx.1 now hfx.2 h2 hrd) rfl rfl rfl rfl (pqY)) ?_
    rintro _ _ ⟨_, ⟨rfl, rfl⟩, rfl⟩
    refine ⟨⟨_, pqY⟩, ?_⟩
    rw [hSb]
    refine WM_val rfl rfl rfl rfl (R_move rfl rfl) ?_
    refine WM_val rfl rfl rfl rfl (R_extract rfl rfl rfl) ?_
    refine WM_val rfl rfl rfl rfl (R_extract rfl rfl rfl) ?_
    refine WM_val rfl rfl rfl rfl (R_assign rfl rfl) ?_
    refine WM_val rfl rfl rfl rfl (R_assign rfl rfl) ?_
    refine WM_nil ?_
    refine WQ_code ?_
    refine WC_seq ?_
    refine WC_region ?_
    refine WL_val rfl rfl rfl (R_fieldAddr rfl fa45_1 rfl) ?_
    refine WL_val rfl rfl rfl (R_load rfl sc42 rfl (mmY) rfl) ?_
    refine WL_val rfl rfl rfl (R_move rfl rfl) ?_
    refine WL_val rfl rfl rfl (R_indexAddrN rfl Try.underlying42 Try.sizeOf82 rfl rfl (by omega)) ?_
    refine WL_val rfl rfl rfl (R_fieldAddr rfl fa82_2 rfl) ?_
    refine WL_val rfl rfl rfl (R_load (v := .int .i64 x8.act) rfl sc3 rfl (mmY) (fm_get0 encLB5 hy9 (j := 2) (by omega))) ?_
    refine WL_val rfl rfl rfl (R_add rfl rfl rfl (by omega)) ?_
    refine WL_val rfl rfl rfl (R_indexAddrN rfl Try.underlying42 Try.sizeOf82 rfl rfl (by omega)) ?_
    refine WL_val rfl rfl rfl (R_fieldAddr rfl fa82_2 rfl) ?_
    refine WL_do0 rfl rfl (D_store (vs := [_]) rfl Try.sizeOf3 rfl rfl rfl rfl rfl (plY) (by exact fm_room0 encLB5 hil2 (j := 2) (by omega))) ?_
    rintro _ _ rfl
    have hput := fm_put0 encLB5 ({ x8 with sh := s1, act := x8.act + 1 } : Bk) hy9 (j := 2) (vs := [.int .i64 (x8.act + 1)]) (by simp) rfl (tl := lt2)
    rw [hput, hSe]
    refine WL_nil ?_
    refine WQ_code ?_
    refine WC_seq ?_
    refine WC_drawR [⟨some b5, _⟩] [(0, true), (1, true), (2, true), (3, true), (4, true), (5, true), (6, false), (7, true), (8, false)] followsMixed rfl rfl (by kernel_rfl) (pqY) ?_
    refine WM_val rfl rfl rfl rfl (R_fieldAddr rfl fa45_3 rfl) ?_
    refine WM_val rfl rfl rfl rfl (R_load (v := .int .i64 (l.gv : Int)) rfl sc3 rfl (mmY) (rfl)) ?_
    refine WM_val rfl rfl rfl rfl (R_addR (r := ((l.gv + 1 : Nat) : Int)) rfl rfl rfl (by rw [wrap64_in (by omega) (by omega)]; omega)) ?_
    refine WM_val rfl rfl rfl rfl (R_fieldAddr rfl fa48_2 rfl) ?_
    refine WM_val rfl rfl rfl rfl (R_load rfl sc30 rfl (mmY) rfl) ?_
    refine WM_val rfl rfl rfl rfl (R_fieldAddr rfl fa45_3 rfl) ?_
    refine WM_do0 rfl rfl rfl (D_store (vs := [_]) rfl Try.sizeOf3 rfl rfl rfl rfl rfl (plY) (by exact Nat.le_of_ble_eq_true rfl)) ?_
    rintro _ _ rfl
    refine ⟨⟨_, pqY⟩, ?_⟩
    refine WM_val rfl rfl rfl rfl (R_fieldAddr rfl fa45_5 rfl) ?_
    refine WM_do0 rfl rfl rfl (D_store (vs := [_]) rfl Try.sizeOf30 rfl rfl rfl rfl rfl (plY) (by exact Nat.le_of_ble_eq_true rfl)) ?_
    rintro _ _ rfl
    refine ⟨⟨_, pqY⟩, ?_⟩
    refine WM_nil ?_
    refine WQ_code ?_
    refine WC_seq ?_
    refine WC_drawX (⟨some b5, _⟩ :: [⟨none, cl [] 88⟩]) [(b5, 3, .int .i64 ((l.gv + 1 : Nat) : Int))] [(0, .q), (1, .q), (3, .q), (4, .q), (5, .q), (6, .q), (7, .q), (2, .n [8]), (8, .b []), (9, .n []), (10, .q), (11, .n [])] followsMixed rfl rfl (by kernel_rfl) (pqY) (.cons (mmY) rfl .nil) ?_
    refine WX_val rfl rfl rfl rfl (R_fieldAddr rfl fa45_4 rfl) ?_
    refine WX_val rfl rfl rfl rfl (R_load rfl sc43 rfl (mmY) rfl) ?_
    refine WX_val rfl rfl rfl rfl (R_fieldAddr rfl fa45_3 rfl) ?_
    refine WX_load rfl rfl rfl rfl rfl sc3 rfl (by repeat (first | exact List.Mem.head _ | refine List.Mem.tail _ ?_)) ?_
    refine WX_val rfl rfl rfl rfl (R_move rfl rfl) ?_
    refine WX_val rfl rfl rfl rfl (R_move rfl rfl) ?_
    refine WX_val rfl rfl rfl rfl (R_build rfl zv88 pl88 rfl rfl) ?_
    refine WX_do rfl rfl rfl rfl (.cons rfl rfl (B_buildSlice rfl si43 rfl rfl rfl) .nil) (fun _ => D_appendO rfl si43 rfl (Own.empty 3) plY rfl hl.o2 mmY (encCl_one _) (by omega) (by omega)) ?_
    rintro _ _ ⟨co2, cc2, ct2, rfl, oc2, rfl⟩
    refine ⟨⟨_, pqY⟩, (.cons (mmY) rfl .nil), ?_⟩
    rw [Nat.zero_add, List.nil_append] at oc2
    rw [Nat.zero_add, List.nil_append]
    refine WX_birth rfl rfl rfl rfl .nil (B_buildSlice rfl si43 rfl rfl rfl) (fun b6 => ?_)
    refine WX_do rfl rfl rfl rfl .nil (fun _ => D_append rfl si43 rfl (oc2) (plY) rfl (mmY) ((atZ : At _ 0 [_, _, _])) (rfl) (rfl) (by omega) (by omega)) ?_
    rintro _ _ ⟨ob7, cap7, tl7, rfl, own7, rfl⟩
    refine ⟨⟨_, pqY⟩, (.cons (mmY) rfl .nil), ?_⟩
    rw [show l.CL.flatMap encCl ++ [Value.int .i64 ((l.gv + 1 : Nat) : Int), Value.int .i64 (i : Int), Value.int .i64 (alB x8.b now).gen] = (l.CL ++ [(((l.gv + 1 : Nat) : Int), ((i : Int), (alB x8.b now).gen))]).flatMap encCl from by simp, show l.CL.length + 1 = (l.CL ++ [(((l.gv + 1 : Nat) : Int), ((i : Int), (alB x8.b now).gen))]).length from by simp] at own7 ⊢
    refine WX_val rfl rfl rfl rfl (R_fieldAddr rfl fa45_4 rfl) ?_
    refine WX_do0 rfl rfl rfl .nil (fun _ => D_store (vs := [_]) rfl Try.sizeOf43 rfl rfl rfl rfl rfl (plY) (by exact Nat.le_of_ble_eq_true rfl)) ?_
    rintro _ _ rfl
    refine ⟨⟨_, pqY⟩, (.cons (mmY) rfl .nil), ?_⟩
    refine WX_nil ?_
    refine WQ_code ?_
    refine WC_seq ?_
    refine WC_drawR [⟨some b3, _⟩] [(0, true), (1, true), (2, true), (3, true), (4, true), (5, true), (6, true), (7, true), (8, true), (9, true), (10, true), (11, true), (12, true), (13, true), (14, true), (15, true), (16, true), (17, false), (18, true)] followsMixed rfl rfl (by kernel_rfl) (pqY) ?_
    refine WM_val rfl rfl rfl rfl (R_move rfl rfl) ?_
    refine WM_val rfl rfl rfl rfl (R_loadA (vs := [_, _, _, _, _, _]) rfl ag45 rfl (mmY) rfl (atZ)) ?_
    refine WM_val rfl rfl rfl rfl (R_loadA (vs := [_, _]) rfl ag36 rfl (mmY) rfl (atZ)) ?_
    refine WM_val rfl rfl rfl rfl (R_move rfl rfl) ?_
    refine WM_val rfl rfl rfl rfl (R_fieldAddr rfl fa45_3 rfl) ?_
    refine WM_val rfl rfl rfl rfl (R_load (v := .int .i64 ((l.gv + 1 : Nat) : Int)) rfl sc3 rfl (mmY) (rfl)) ?_
    refine WM_val rfl rfl rfl rfl (R_build rfl zv36 pl36 rfl rfl) ?_
    refine WM_val rfl rfl rfl rfl (R_seq36 rfl rfl rfl rfl) ?_
    refine WM_set (s := 135) (v := .bool true) rfl (by simp) ?_
    refine WM_val rfl rfl rfl rfl (R_move rfl rfl) ?_
    refine WM_val rfl rfl rfl rfl (R_move rfl rfl) ?_
    refine WM_val rfl rfl rfl rfl (R_eql rfl rfl rfl) ?_
    refine WM_set (s := 138) (v := .bool true) rfl (by simp) ?_
    refine WM_val rfl rfl rfl rfl (R_pickT rfl rfl rfl) ?_
    refine WM_val rfl rfl rfl rfl (R_move rfl rfl) ?_
    refine WM_val rfl rfl rfl rfl (R_move rfl rfl) ?_
    refine WM_val rfl rfl rfl rfl (R_eql rfl rfl rfl) ?_
    refine WM_set (s := 142) (v := .bool true) rfl (by simp) ?_
    refine WM_val rfl rfl rfl rfl (R_pickT rfl rfl rfl) ?_
    refine WM_val rfl rfl rfl rfl (R_assign rfl rfl) ?_
    refine WM_do0 rfl rfl rfl (D_store (vs := [_, _, _, _, _, _]) rfl Try.sizeOf45 rfl rfl rfl rfl rfl (plY) (by exact Nat.le_of_ble_eq_true rfl)) ?_
    rintro _ _ rfl
    refine ⟨⟨_, pqY⟩, ?_⟩
    refine WM_val rfl rfl rfl rfl (R_assign rfl rfl) ?_
    refine WM_nil ?_
    refine WQ_code ?_
    refine WC_ret ?_
    refine WQ_ret rfl rfl (.cons (.tmp rfl) (.cons (.cell (vs := [_, _, _, _, _, _]) rfl ag45 (mmY) rfl (atZ)) (.cons (.tmp rfl) .nil))) rfl (by
        refine ⟨m2, s.pick key now, { l with lo := lo2, lc := lc2, tl := lt2, L := lpS l key now i, nx := chN l.kd l.n l.nx (cand l.L now), gv := l.gv + 1, last := now, co := ob7, cc := cap7, ct := tl7, CL := l.CL ++ [(((l.gv + 1 : Nat) : Int), ((i : Int), (alB x8.b now).gen))] }, rfl, rfl, g2, lm_pick hl (hr.w hb) hil ow2 own7, ?_⟩
        have hrp := hr.picked (lo2 := lo2) (lc2 := lc2) (lt2 := lt2) (co2 := ob7) (cc2 := cap7) (ct2 := tl7) hne hpi hln
        rw [hgb] at hrp
        exact hrp) (pqY)
theorem st_up {N : Nat} {m : Bm} {s : BS} {l : Lm} (hb : BIs N m s) (hl : LmIs N l) (hr : Rel s l) (hN : N ≤ 8000) (wt n : Int) (now : Nat) (key : ByteArray) (good : Bool) (h0 : wt = 2) (i : Nat) (hni : n = (i : Int)) (hi : i < l.n) : Spec Try.prog 15 [ptrB m.p, lmV l, .agg #[.int .i64 wt, .int .i64 n, .int .u64 (now : Int), .string key, .bool good]] (balH m ++ (lH1 l :: lH2 l :: bks l.L)) (fun r H' => ∃ m2 s2 l2, r = .tuple #[ptrB m2.p, lmV l2, .bool true] ∧ H' = balH m2 ++ lmH l2 ∧ BIs (N + 1) m2 s2 ∧ LmIs (N + 1) l2 ∧ Rel s2 l2) := by
  have hml : m.last = l.last := hb.last.trans hr.last.symm
  have hsl : s.last = l.last := hr.last.symm
  have hln : l.n = s.V.length := by rw [← hl.hn, cq_len (hr.to hb), hb.is.hn]; exact hb.len
  have hnn := hl.n
  have hgv : s.gv = l.gv := hr.gv.symm
  have hglv := hl.gv
  have hcll := hl.cl
  subst hni
  have hhn := hl.hn
  obtain ⟨x9, hx9⟩ := getE (T := l.L) (i := i) (by omega)
  have hS : l.L.set i { gB l.L (i : Int) with up := good } = l.L.set i { x9 with up := good } := by rw [gB_at hx9]
  have hSb : bks (l.L.set i { x9 with up := good }) = bks l.L := bks_set hx9 rfl rfl
  refine Spec.of (E := [(0, ptrB m.p), (1, lmV l), (2, .agg #[.int .i64 wt, .int .i64 (i : Int), .int .u64 (now : Int), .string key, .bool good])]) Try.func15 rfl (by kernel_rfl) Try.ntmps15 rfl rfl (fun w => ?_)
  refine WC_seq ?_
  refine WC_region ?_
  refine WL_do rfl rfl rfl (D_box (cs := [_, _, _, _, _, _]) rfl rfl rfl) ?_
  rintro _ _ ⟨b1, rfl, rfl⟩
  refine WL_do rfl rfl rfl (D_box (cs := [_, _, _, _, _]) rfl rfl rfl) ?_
  rintro _ _ ⟨b2, rfl, rfl⟩
  refine WL_val rfl rfl rfl (R_assign rfl rfl) ?_
  refine WL_do rfl rfl rfl (D_alloc rfl zv45) ?_
  rintro _ _ ⟨b3, rfl, rfl⟩
  refine WL_val rfl rfl rfl (R_assign rfl rfl) ?_
  refine WL_nil ?_
  refine WQ_code ?_
  refine WC_seq ?_
  refine WC_region ?_
  refine WL_val rfl rfl rfl (R_fieldAddr rfl fa48_2 rfl) ?_
  refine WL_val rfl rfl rfl (R_load rfl sc30 rfl (mmY) rfl) ?_
  refine WL_val rfl rfl rfl (R_fieldAddr rfl fa45_5 rfl) ?_
  refine WL_val rfl rfl rfl (R_load rfl sc30 rfl (mmY) rfl) ?_
  refine WL_val rfl rfl rfl (R_lss rfl rfl rfl) ?_
  refine WL_val rfl rfl rfl (R_move rfl rfl) ?_
  refine WL_splitD (s := 26) rfl (fun c1 => ?_) (fun c1 => ?_)
  · refine WL_skip rfl rfl rfl ?_
    refine WL_skip rfl rfl rfl ?_
    refine WL_skip rfl rfl rfl ?_
    refine WL_val rfl rfl rfl (R_pickT rfl rfl rfl) ?_
    refine WL_val rfl rfl rfl (R_assign rfl rfl) ?_
    refine WL_nil ?_
    refine WQ_code ?_
    refine WC_seq ?_
    refine WC_seq ?_
    refine WC_region ?_
    refine WL_val rfl rfl rfl (R_fieldAddr rfl fa48_0 rfl) ?_
    refine WL_val rfl rfl rfl (R_load rfl sc3 rfl (mmY) rfl) ?_
    refine WL_nil ?_
    refine WQ_code ?_
    refine WC_block ?_
    refine WC_seq ?_
    refine WC_region ?_
    refine WL_val rfl rfl rfl (R_eql rfl rfl rfl) ?_
    refine WL_val rfl rfl rfl (R_assign rfl rfl) ?_
    refine WL_nil ?_
    refine WQ_code ?_
    refine WC_dF rfl (by omega) ?_
    refine WC_seq ?_
    refine WC_region ?_
    refine WL_val rfl rfl rfl (R_eql rfl rfl rfl) ?_
    refine WL_val rfl rfl rfl (R_assign rfl rfl) ?_
    refine WL_nil ?_
    refine WQ_code ?_
    refine WC_dF rfl (by omega) ?_
    refine WC_seq ?_
    refine WC_region ?_
    refine WL_val rfl rfl rfl (R_eql rfl rfl rfl) ?_
    refine WL_val rfl rfl rfl (R_assign rfl rfl) ?_
    refine WL_nil ?_
    refine WQ_code ?_
    refine WC_dT rfl (by exact h0) ?_
    refine WC_seq ?_
    refine WC_region ?_
    refine WL_val rfl rfl rfl (R_move rfl rfl) ?_
    refine WL_val rfl rfl rfl (R_fieldAddr rfl fa48_1 rfl) ?_
    refine WL_val rfl rfl rfl (R_load rfl sc3 rfl (mmY) rfl) ?_
    refine WL_val rfl rfl rfl (R_fieldAddr rfl fa48_4 rfl) ?_
    refine WL_val rfl rfl rfl (R_load rfl sc4 rfl (mmY) rfl) ?_
    refine WL_do rfl rfl rfl (D_call (bs_ok hb i (by omega) good) rfl rfl rfl rfl (pqY)) ?_
    rintro _ _ ⟨_, ⟨m2, rfl, rfl, hp2, g2⟩, rfl⟩
    rw [← hp2]
    refine WL_val rfl rfl rfl (R_assign rfl rfl) ?_
    refine WL_nil ?_
    refine WQ_code ?_
    refine WC_seq ?_
    refine WC_seq ?_
    refine WC_region ?_
    refine WL_val rfl rfl rfl (R_fieldAddr rfl fa48_1 rfl) ?_
    refine WL_val rfl rfl rfl (R_load rfl sc3 rfl (mmY) rfl) ?_
    refine WL_val rfl rfl rfl (R_lss rfl rfl rfl) ?_
    refine WL_val rfl rfl rfl (R_move rfl rfl) ?_
    refine WL_set (s := 241) (v := .bool false) rfl (by exact congrArg Value.bool (decide_eq_false (by omega))) ?_
    refine WL_val rfl rfl rfl (R_fieldAddr rfl fa48_1 rfl) ?_
    refine WL_val rfl rfl rfl (R_load rfl sc3 rfl (mmY) rfl) ?_
    refine WL_val rfl rfl rfl (R_fieldAddr rfl fa45_1 rfl) ?_
    refine WL_val rfl rfl rfl (R_load rfl sc42 rfl (mmY) rfl) ?_
    refine WL_val rfl rfl rfl (R_len rfl Try.underlying42 rfl) ?_
    refine WL_val rfl rfl rfl (R_geq rfl rfl rfl) ?_
    refine WL_val rfl rfl rfl (R_pickF rfl rfl rfl) ?_
    refine WL_nil ?_
    refine WQ_code ?_
    refine WC_dF rfl (by omega) ?_
    refine WC_skip ?_
    refine WQ_code ?_
    refine WC_seq ?_
    refine WC_region ?_
    refine WL_none 82 ?_
    refine WL_val rfl rfl rfl (R_fieldAddr rfl fa45_1 rfl) ?_
    refine WL_val rfl rfl rfl (R_load rfl sc42 rfl (mmY) rfl) ?_
    refine WL_do rfl rfl rfl (D_appendO rfl si42 rfl (Own.empty 5) plY rfl hl.o1 mmY (encLB_one _) (by omega) (by omega)) ?_
    rintro _ _ ⟨lo2, lc2, lt2, rfl, ol2, rfl⟩
    rw [Nat.zero_add, List.nil_append] at ol2
    rw [Nat.zero_add, List.nil_append]
    obtain ⟨w2, rfl⟩ := ol2.some_of (by omega)
    refine WL_val rfl rfl rfl (R_fieldAddr rfl fa45_1 rfl) ?_
    refine WL_do0 rfl rfl (D_store (vs := [_]) rfl Try.sizeOf42 rfl rfl rfl rfl rfl (plY) (by exact Nat.le_of_ble_eq_true rfl)) ?_
    rintro _ _ rfl
    refine WL_nil ?_
    refine WQ_code ?_
    refine WC_seq ?_
    refine WC_region ?_
    refine WL_val rfl rfl rfl (R_fieldAddr rfl fa45_1 rfl) ?_
    refine WL_val rfl rfl rfl (R_load rfl sc42 rfl (mmY) rfl) ?_
    refine WL_val rfl rfl rfl (R_fieldAddr rfl fa48_1 rfl) ?_
    refine WL_val rfl rfl rfl (R_load rfl sc3 rfl (mmY) rfl) ?_
    refine WL_val rfl rfl rfl (R_fieldAddr rfl fa48_4 rfl) ?_
    refine WL_val rfl rfl rfl (R_load rfl sc4 rfl (mmY) rfl) ?_
    refine WL_val rfl rfl rfl (R_not rfl rfl) ?_
    refine WL_val rfl rfl rfl (R_indexAddrN rfl Try.underlying42 Try.sizeOf82 rfl rfl (by omega)) ?_
    refine WL_val rfl rfl rfl (R_fieldAddr rfl fa82_3 rfl) ?_
    refine WL_do0 rfl rfl (D_store (vs := [_]) rfl Try.sizeOf4 rfl rfl rfl rfl rfl (plY) (by exact fm_room0 encLB5 (show i < l.L.length by omega) (j := 3) (by omega))) ?_
    rintro _ _ rfl
    have hput := fm_put0 encLB5 ({ x9 with up := good } : Bk) hx9 (j := 3) (vs := [.bool (!good)]) (by simp) rfl (tl := lt2)
    rw [hput, ← hS, ← hSb, ← hS]
    refine WL_nil ?_
    refine WQ_code ?_
    refine WC_seq ?_
    refine WC_drawR [⟨some b3, _⟩] [(0, true), (1, true), (2, true), (3, true), (4, true), (5, false), (6, true)] followsMixed rfl rfl (by kernel_rfl) (pqY) ?_
    refine WM_val rfl rfl rfl rfl (R_move rfl rfl) ?_
    refine WM_val rfl rfl rfl rfl (R_loadA (vs := [_, _, _, _, _, _]) rfl ag45 rfl (mmY) rfl (atZ)) ?_
    refine WM_val rfl rfl rfl rfl (R_move rfl rfl) ?_
    refine WM_val rfl rfl rfl rfl (R_eql rfl rfl rfl) ?_
    refine WM_set (s := 269) (v := .bool true) rfl (by simp) ?_
    refine WM_val rfl rfl rfl rfl (R_assign rfl rfl) ?_
    refine WM_do0 rfl rfl rfl (D_store (vs := [_, _, _, _, _, _]) rfl Try.sizeOf45 rfl rfl rfl rfl rfl (plY) (by exact Nat.le_of_ble_eq_true rfl)) ?_
    rintro _ _ rfl
    refine ⟨⟨_, pqY⟩, ?_⟩
    refine WM_val rfl rfl rfl rfl (R_assign rfl rfl) ?_
    refine WM_nil ?_
    refine WQ_code ?_
    refine WC_ret ?_
    refine WQ_ret rfl rfl (.cons (.tmp rfl) (.cons (.cell (vs := [_, _, _, _, _, _]) rfl ag45 (mmY) rfl (atZ)) (.cons (.tmp rfl) .nil))) rfl (by
        exact ⟨m2, s.setup i good, { l with lo := w2, lc := lc2, tl := lt2, L := l.L.set i { gB l.L (i : Int) with up := good } }, rfl, rfl, g2.le (Nat.le_succ N), lm_setup hl hi ol2, hr.setup⟩) (pqY)
  · refine WL_val rfl rfl rfl (R_fieldAddr rfl fa48_2 rfl) ?_
    refine WL_val rfl rfl rfl (R_load rfl sc30 rfl (mmY) rfl) ?_
    refine WL_val rfl rfl rfl (R_eql rfl rfl rfl) ?_
    refine WL_val rfl rfl rfl (R_pickF rfl rfl rfl) ?_
    refine WL_val rfl rfl rfl (R_assign rfl rfl) ?_
    refine WL_nil ?_
    refine WQ_code ?_
    refine WC_seq ?_
    refine WC_seq ?_
    refine WC_region ?_
    refine WL_val rfl rfl rfl (R_fieldAddr rfl fa48_0 rfl) ?_
    refine WL_val rfl rfl rfl (R_load rfl sc3 rfl (mmY) rfl) ?_
    refine WL_nil ?_
    refine WQ_code ?_
    refine WC_block ?_
    refine WC_seq ?_
    refine WC_region ?_
    refine WL_val rfl rfl rfl (R_eql rfl rfl rfl) ?_
    refine WL_val rfl rfl rfl (R_assign rfl rfl) ?_
    refine WL_nil ?_
    refine WQ_code ?_
    refine WC_dF rfl (by omega) ?_
    refine WC_seq ?_
    refine WC_region ?_
    refine WL_val rfl rfl rfl (R_eql rfl rfl rfl) ?_
    refine WL_val rfl rfl rfl (R_assign rfl rfl) ?_
    refine WL_nil ?_
    refine WQ_code ?_
    refine WC_dF rfl (by omega) ?_
    refine WC_seq ?_
    refine WC_region ?_
    refine WL_val rfl rfl rfl (R_eql rfl rfl rfl) ?_
    refine WL_val rfl rfl rfl (R_assign rfl rfl) ?_
    refine WL_nil ?_
    refine WQ_code ?_
    refine WC_dT rfl (by exact h0) ?_
    refine WC_seq ?_
    refine WC_region ?_
    refine WL_val rfl rfl rfl (R_move rfl rfl) ?_
    refine WL_val rfl rfl rfl (R_fieldAddr rfl fa48_1 rfl) ?_
    refine WL_val rfl rfl rfl (R_load rfl sc3 rfl (mmY) rfl) ?_
    refine WL_val rfl rfl rfl (R_fieldAddr rfl fa48_4 rfl) ?_
    refine WL_val rfl rfl rfl (R_load rfl sc4 rfl (mmY) rfl) ?_
    refine WL_do rfl rfl rfl (D_call (bs_ok hb i (by omega) good) rfl rfl rfl rfl (pqY)) ?_
    rintro _ _ ⟨_, ⟨m2, rfl, rfl, hp2, g2⟩, rfl⟩
    rw [← hp2]
    refine WL_val rfl rfl rfl (R_assign rfl rfl) ?_
    refine WL_nil ?_
    refine WQ_code ?_
    refine WC_seq ?_
    refine WC_seq ?_
    refine WC_region ?_
    refine WL_val rfl rfl rfl (R_fieldAddr rfl fa48_1 rfl) ?_
    refine WL_val rfl rfl rfl (R_load rfl sc3 rfl (mmY) rfl) ?_
    refine WL_val rfl rfl rfl (R_lss rfl rfl rfl) ?_
    refine WL_val rfl rfl rfl (R_move rfl rfl) ?_
    refine WL_set (s := 241) (v := .bool false) rfl (by exact congrArg Value.bool (decide_eq_false (by omega))) ?_
    refine WL_val rfl rfl rfl (R_fieldAddr rfl fa48_1 rfl) ?_
    refine WL_val rfl rfl rfl (R_load rfl sc3 rfl (mmY) rfl) ?_
    refine WL_val rfl rfl rfl (R_fieldAddr rfl fa45_1 rfl) ?_
    refine WL_val rfl rfl rfl (R_load rfl sc42 rfl (mmY) rfl) ?_
    refine WL_val rfl rfl rfl (R_len rfl Try.underlying42 rfl) ?_
    refine WL_val rfl rfl rfl (R_geq rfl rfl rfl) ?_
    refine WL_val rfl rfl rfl (R_pickF rfl rfl rfl) ?_
    refine WL_nil ?_
    refine WQ_code ?_
    refine WC_dF rfl (by omega) ?_
    refine WC_skip ?_
    refine WQ_code ?_
    refine WC_seq ?_
    refine WC_region ?_
    refine WL_none 82 ?_
    refine WL_val rfl rfl rfl (R_fieldAddr rfl fa45_1 rfl) ?_
    refine WL_val rfl rfl rfl (R_load rfl sc42 rfl (mmY) rfl) ?_
    refine WL_do rfl rfl rfl (D_appendO rfl si42 rfl (Own.empty 5) plY rfl hl.o1 mmY (encLB_one _) (by omega) (by omega)) ?_
    rintro _ _ ⟨lo2, lc2, lt2, rfl, ol2, rfl⟩
    rw [Nat.zero_add, List.nil_append] at ol2
    rw [Nat.zero_add, List.nil_append]
    obtain ⟨w2, rfl⟩ := ol2.some_of (by omega)
    refine WL_val rfl rfl rfl (R_fieldAddr rfl fa45_1 rfl) ?_
    refine WL_do0 rfl rfl (D_store (vs := [_]) rfl Try.sizeOf42 rfl rfl rfl rfl rfl (plY) (by exact Nat.le_of_ble_eq_true rfl)) ?_
    rintro _ _ rfl
    refine WL_nil ?_
    refine WQ_code ?_
    refine WC_seq ?_
    refine WC_region ?_
    refine WL_val rfl rfl rfl (R_fieldAddr rfl fa45_1 rfl) ?_
    refine WL_val rfl rfl rfl (R_load rfl sc42 rfl (mmY) rfl) ?_
    refine WL_val rfl rfl rfl (R_fieldAddr rfl fa48_1 rfl) ?_
    refine WL_val rfl rfl rfl (R_load rfl sc3 rfl (mmY) rfl) ?_
    refine WL_val rfl rfl rfl (R_fieldAddr rfl fa48_4 rfl) ?_
    refine WL_val rfl rfl rfl (R_load rfl sc4 rfl (mmY) rfl) ?_
    refine WL_val rfl rfl rfl (R_not rfl rfl) ?_
    refine WL_val rfl rfl rfl (R_indexAddrN rfl Try.underlying42 Try.sizeOf82 rfl rfl (by omega)) ?_
    refine WL_val rfl rfl rfl (R_fieldAddr rfl fa82_3 rfl) ?_
    refine WL_do0 rfl rfl (D_store (vs := [_]) rfl Try.sizeOf4 rfl rfl rfl rfl rfl (plY) (by exact fm_room0 encLB5 (show i < l.L.length by omega) (j := 3) (by omega))) ?_
    rintro _ _ rfl
    have hput := fm_put0 encLB5 ({ x9 with up := good } : Bk) hx9 (j := 3) (vs := [.bool (!good)]) (by simp) rfl (tl := lt2)
    rw [hput, ← hS, ← hSb, ← hS]
    refine WL_nil ?_
    refine WQ_code ?_
    refine WC_seq ?_
    refine WC_drawR [⟨some b3, _⟩] [(0, true), (1, true), (2, true), (3, true), (4, true), (5, false), (6, true)] followsMixed rfl rfl (by kernel_rfl) (pqY) ?_
    refine WM_val rfl rfl rfl rfl (R_move rfl rfl) ?_
    refine WM_val rfl rfl rfl rfl (R_loadA (vs := [_, _, _, _, _, _]) rfl ag45 rfl (mmY) rfl (atZ)) ?_
    refine WM_val rfl rfl rfl rfl (R_move rfl rfl) ?_
    refine WM_val rfl rfl rfl rfl (R_eql rfl rfl rfl) ?_
    refine WM_set (s := 269) (v := .bool true) rfl (by simp) ?_
    refine WM_val rfl rfl rfl rfl (R_assign rfl rfl) ?_
    refine WM_do0 rfl rfl rfl (D_store (vs := [_, _, _, _, _, _]) rfl Try.sizeOf45 rfl rfl rfl rfl rfl (plY) (by exact Nat.le_of_ble_eq_true rfl)) ?_
    rintro _ _ rfl
    refine ⟨⟨_, pqY⟩, ?_⟩
    refine WM_val rfl rfl rfl rfl (R_assign rfl rfl) ?_
    refine WM_nil ?_
    refine WQ_code ?_
    refine WC_ret ?_
    refine WQ_ret rfl rfl (.cons (.tmp rfl) (.cons (.cell (vs := [_, _, _, _, _, _]) rfl ag45 (mmY) rfl (atZ)) (.cons (.tmp rfl) .nil))) rfl (by
        exact ⟨m2, s.setup i good, { l with lo := w2, lc := lc2, tl := lt2, L := l.L.set i { gB l.L (i : Int) with up := good } }, rfl, rfl, g2.le (Nat.le_succ N), lm_setup hl hi ol2, hr.setup⟩) (pqY)
theorem st_copy {N : Nat} {m : Bm} {s : BS} {l : Lm} (hb : BIs N m s) (hl : LmIs N l) (hr : Rel s l) (hN : N ≤ 8000) (wt n : Int) (now : Nat) (key : ByteArray) (good : Bool) (h0 : wt < 0 ∨ 2 < wt) : Spec Try.prog 15 [ptrB m.p, lmV l, .agg #[.int .i64 wt, .int .i64 n, .int .u64 (now : Int), .string key, .bool good]] (balH m ++ lmH l) (fun r H' => ∃ m2 s2 l2, r = .tuple #[ptrB m2.p, lmV l2, .bool true] ∧ H' = balH m2 ++ lmH l2 ∧ BIs (N + 1) m2 s2 ∧ LmIs (N + 1) l2 ∧ Rel s2 l2) := by
  have hml : m.last = l.last := hb.last.trans hr.last.symm
  have hsl : s.last = l.last := hr.last.symm
  have hln : l.n = s.V.length := by rw [← hl.hn, cq_len (hr.to hb), hb.is.hn]; exact hb.len
  have hnn := hl.n
  have hgv : s.gv = l.gv := hr.gv.symm
  have hglv := hl.gv
  have hcll := hl.cl
  have hll := hb.is.last
  refine Spec.of (E := [(0, ptrB m.p), (1, lmV l), (2, .agg #[.int .i64 wt, .int .i64 n, .int .u64 (now : Int), .string key, .bool good])]) Try.func15 rfl (by kernel_rfl) Try.ntmps15 rfl rfl (fun w => ?_)
  refine WC_seq ?_
  refine WC_region ?_
  refine WL_do rfl rfl rfl (D_box (cs := [_, _, _, _, _, _]) rfl rfl rfl) ?_
  rintro _ _ ⟨b1, rfl, rfl⟩
  refine WL_do rfl rfl rfl (D_box (cs := [_, _, _, _, _]) rfl rfl rfl) ?_
  rintro _ _ ⟨b2, rfl, rfl⟩
  refine WL_val rfl rfl rfl (R_assign rfl rfl) ?_
  refine WL_do rfl rfl rfl (D_alloc rfl zv45) ?_
  rintro _ _ ⟨b3, rfl, rfl⟩
  refine WL_val rfl rfl rfl (R_assign rfl rfl) ?_
  refine WL_nil ?_
  refine WQ_code ?_
  refine WC_seq ?_
  refine WC_region ?_
  refine WL_val rfl rfl rfl (R_fieldAddr rfl fa48_2 rfl) ?_
  refine WL_val rfl rfl rfl (R_load rfl sc30 rfl (mmY) rfl) ?_
  refine WL_val rfl rfl rfl (R_fieldAddr rfl fa45_5 rfl) ?_
  refine WL_val rfl rfl rfl (R_load rfl sc30 rfl (mmY) rfl) ?_
  refine WL_val rfl rfl rfl (R_lss rfl rfl rfl) ?_
  refine WL_val rfl rfl rfl (R_move rfl rfl) ?_
  refine WL_splitD (s := 26) rfl (fun c1 => ?_) (fun c1 => ?_)
  · refine WL_skip rfl rfl rfl ?_
    refine WL_skip rfl rfl rfl ?_
    refine WL_skip rfl rfl rfl ?_
    refine WL_val rfl rfl rfl (R_pickT rfl rfl rfl) ?_
    refine WL_val rfl rfl rfl (R_assign rfl rfl) ?_
    refine WL_nil ?_
    refine WQ_code ?_
    refine WC_seq ?_
    refine WC_seq ?_
    refine WC_region ?_
    refine WL_val rfl rfl rfl (R_fieldAddr rfl fa48_0 rfl) ?_
    refine WL_val rfl rfl rfl (R_load rfl sc3 rfl (mmY) rfl) ?_
    refine WL_nil ?_
    refine WQ_code ?_
    refine WC_block ?_
    refine WC_seq ?_
    refine WC_region ?_
    refine WL_val rfl rfl rfl (R_eql rfl rfl rfl) ?_
    refine WL_val rfl rfl rfl (R_assign rfl rfl) ?_
    refine WL_nil ?_
    refine WQ_code ?_
    refine WC_dF rfl (by omega) ?_
    refine WC_seq ?_
    refine WC_region ?_
    refine WL_val rfl rfl rfl (R_eql rfl rfl rfl) ?_
    refine WL_val rfl rfl rfl (R_assign rfl rfl) ?_
    refine WL_nil ?_
    refine WQ_code ?_
    refine WC_dF rfl (by omega) ?_
    refine WC_seq ?_
    refine WC_region ?_
    refine WL_val rfl rfl rfl (R_eql rfl rfl rfl) ?_
    refine WL_val rfl rfl rfl (R_assign rfl rfl) ?_
    refine WL_nil ?_
    refine WQ_code ?_
    refine WC_dF rfl (by omega) ?_
    refine WC_skip ?_
    refine WQ_code ?_
    refine WC_seq ?_
    refine WC_region ?_
    refine WL_val rfl rfl rfl (R_move rfl rfl) ?_
    refine WL_do rfl rfl rfl (D_call (bcopy_ok m N s.C hb.is) rfl rfl rfl rfl (pqY)) ?_
    rintro _ _ ⟨_, ⟨mc, rfl, rfl, hmc, k1, k2, k3, k4, k5, k6⟩, rfl⟩
    refine WL_val rfl rfl rfl (R_assign rfl rfl) ?_
    refine WL_nil ?_
    refine WQ_code ?_
    refine WC_seq ?_
    refine WC_region ?_
    refine WL_val rfl rfl rfl (R_move rfl rfl) ?_
    refine WL_val rfl rfl rfl (R_fieldAddr rfl fa45_5 rfl) ?_
    refine WL_val rfl rfl rfl (R_load rfl sc30 rfl (mmY) rfl) ?_
    refine WL_do rfl rfl rfl (D_call (bp_any hb (by omega) l.last ⟨#[122]⟩ (by decide) (by omega) (by omega)) rfl rfl rfl rfl (pqY)) ?_
    rintro _ _ ⟨_, ⟨m3, s3, rfl, hp3, g3, hl3, hv3⟩, rfl⟩
    rw [← hp3]
    refine WL_nil ?_
    refine WQ_code ?_
    refine WC_seq ?_
    refine WC_region ?_
    refine WL_val rfl rfl rfl (R_move rfl rfl) ?_
    refine WL_do rfl rfl rfl (D_call (bs_ok g3 0 (by omega) false) rfl rfl rfl rfl (pqY)) ?_
    rintro _ _ ⟨_, ⟨m4, rfl, rfl, hp4, g4⟩, rfl⟩
    rw [← hp4]
    refine WL_nil ?_
    refine WQ_code ?_
    refine WC_seq ?_
    refine WC_region ?_
    refine WL_val rfl rfl rfl (R_move rfl rfl) ?_
    refine WL_val rfl rfl rfl (R_fieldAddr rfl fa45_5 rfl) ?_
    refine WL_val rfl rfl rfl (R_load rfl sc30 rfl (mmY) rfl) ?_
    refine WL_val rfl rfl rfl (R_fieldAddr rfl fa45_3 rfl) ?_
    refine WL_val rfl rfl rfl (R_load rfl sc3 rfl (mmY) rfl) ?_
    refine WL_do rfl rfl rfl (D_call (bd_any g4 (by omega) l.last (l.gv : Int) false hl3 (by omega)) rfl rfl rfl rfl (pqY)) ?_
    rintro _ _ ⟨_, ⟨m5, rfl⟩, rfl⟩
    refine WL_nil ?_
    refine WQ_code ?_
    refine WC_seq ?_
    refine WC_drawR [⟨some b3, _⟩] [(0, true), (1, true), (2, true), (3, true), (4, true), (5, false), (6, true)] followsMixed rfl rfl (by kernel_rfl) (pqY) ?_
    refine WM_val rfl rfl rfl rfl (R_move rfl rfl) ?_
    refine WM_val rfl rfl rfl rfl (R_loadA (vs := [_, _, _, _, _, _]) rfl ag45 rfl (mmY) rfl (atZ)) ?_
    refine WM_val rfl rfl rfl rfl (R_move rfl rfl) ?_
    refine WM_val rfl rfl rfl rfl (R_ptrNeNil rfl Try.underlying31 rfl) ?_
    refine WM_set (s := 287) (v := .bool true) rfl (by rfl) ?_
    refine WM_val rfl rfl rfl rfl (R_assign rfl rfl) ?_
    refine WM_do0 rfl rfl rfl (D_store (vs := [_, _, _, _, _, _]) rfl Try.sizeOf45 rfl rfl rfl rfl rfl (plY) (by exact Nat.le_of_ble_eq_true rfl)) ?_
    rintro _ _ rfl
    refine ⟨⟨_, pqY⟩, ?_⟩
    refine WM_val rfl rfl rfl rfl (R_assign rfl rfl) ?_
    refine WM_nil ?_
    refine WQ_code ?_
    refine WC_ret ?_
    refine WQ_ret rfl rfl (.cons (.tmp rfl) (.cons (.cell (vs := [_, _, _, _, _, _]) rfl ag45 (mmY) rfl (atZ)) (.cons (.tmp rfl) .nil))) rfl (by
        exact ⟨mc, s, l, rfl, rfl, (⟨hmc, k1.trans hb.k, k6.trans hb.V, k3.trans hb.nx, k4.trans hb.gv, k5.trans hb.last⟩ : BIs N mc s).le (Nat.le_succ N), hl.le (Nat.le_succ N), hr⟩) (pqY)
  · refine WL_val rfl rfl rfl (R_fieldAddr rfl fa48_2 rfl) ?_
    refine WL_val rfl rfl rfl (R_load rfl sc30 rfl (mmY) rfl) ?_
    refine WL_val rfl rfl rfl (R_eql rfl rfl rfl) ?_
    refine WL_val rfl rfl rfl (R_pickF rfl rfl rfl) ?_
    refine WL_val rfl rfl rfl (R_assign rfl rfl) ?_
    refine WL_nil ?_
    refine WQ_code ?_
    refine WC_seq ?_
    refine WC_seq ?_
    refine WC_region ?_
    refine WL_val rfl rfl rfl (R_fieldAddr rfl fa48_0 rfl) ?_
    refine WL_val rfl rfl rfl (R_load rfl sc3 rfl (mmY) rfl) ?_
    refine WL_nil ?_
    refine WQ_code ?_
    refine WC_block ?_
    refine WC_seq ?_
    refine WC_region ?_
    refine WL_val rfl rfl rfl (R_eql rfl rfl rfl) ?_
    refine WL_val rfl rfl rfl (R_assign rfl rfl) ?_
    refine WL_nil ?_
    refine WQ_code ?_
    refine WC_dF rfl (by omega) ?_
    refine WC_seq ?_
    refine WC_region ?_
    refine WL_val rfl rfl rfl (R_eql rfl rfl rfl) ?_
    refine WL_val rfl rfl rfl (R_assign rfl rfl) ?_
    refine WL_nil ?_
    refine WQ_code ?_
    refine WC_dF rfl (by omega) ?_
    refine WC_seq ?_
    refine WC_region ?_
    refine WL_val rfl rfl rfl (R_eql rfl rfl rfl) ?_
    refine WL_val rfl rfl rfl (R_assign rfl rfl) ?_
    refine WL_nil ?_
    refine WQ_code ?_
    refine WC_dF rfl (by omega) ?_
    refine WC_skip ?_
    refine WQ_code ?_
    refine WC_seq ?_
    refine WC_region ?_
    refine WL_val rfl rfl rfl (R_move rfl rfl) ?_
    refine WL_do rfl rfl rfl (D_call (bcopy_ok m N s.C hb.is) rfl rfl rfl rfl (pqY)) ?_
    rintro _ _ ⟨_, ⟨mc, rfl, rfl, hmc, k1, k2, k3, k4, k5, k6⟩, rfl⟩
    refine WL_val rfl rfl rfl (R_assign rfl rfl) ?_
    refine WL_nil ?_
    refine WQ_code ?_
    refine WC_seq ?_
    refine WC_region ?_
    refine WL_val rfl rfl rfl (R_move rfl rfl) ?_
    refine WL_val rfl rfl rfl (R_fieldAddr rfl fa45_5 rfl) ?_
    refine WL_val rfl rfl rfl (R_load rfl sc30 rfl (mmY) rfl) ?_
    refine WL_do rfl rfl rfl (D_call (bp_any hb (by omega) l.last ⟨#[122]⟩ (by decide) (by omega) (by omega)) rfl rfl rfl rfl (pqY)) ?_
    rintro _ _ ⟨_, ⟨m3, s3, rfl, hp3, g3, hl3, hv3⟩, rfl⟩
    rw [← hp3]
    refine WL_nil ?_
    refine WQ_code ?_
    refine WC_seq ?_
    refine WC_region ?_
    refine WL_val rfl rfl rfl (R_move rfl rfl) ?_
    refine WL_do rfl rfl rfl (D_call (bs_ok g3 0 (by omega) false) rfl rfl rfl rfl (pqY)) ?_
    rintro _ _ ⟨_, ⟨m4, rfl, rfl, hp4, g4⟩, rfl⟩
    rw [← hp4]
    refine WL_nil ?_
    refine WQ_code ?_
    refine WC_seq ?_
    refine WC_region ?_
    refine WL_val rfl rfl rfl (R_move rfl rfl) ?_
    refine WL_val rfl rfl rfl (R_fieldAddr rfl fa45_5 rfl) ?_
    refine WL_val rfl rfl rfl (R_load rfl sc30 rfl (mmY) rfl) ?_
    refine WL_val rfl rfl rfl (R_fieldAddr rfl fa45_3 rfl) ?_
    refine WL_val rfl rfl rfl (R_load rfl sc3 rfl (mmY) rfl) ?_
    refine WL_do rfl rfl rfl (D_call (bd_any g4 (by omega) l.last (l.gv : Int) false hl3 (by omega)) rfl rfl rfl rfl (pqY)) ?_
    rintro _ _ ⟨_, ⟨m5, rfl⟩, rfl⟩
    refine WL_nil ?_
    refine WQ_code ?_
    refine WC_seq ?_
    refine WC_drawR [⟨some b3, _⟩] [(0, true), (1, true), (2, true), (3, true), (4, true), (5, false), (6, true)] followsMixed rfl rfl (by kernel_rfl) (pqY) ?_
    refine WM_val rfl rfl rfl rfl (R_move rfl rfl) ?_
    refine WM_val rfl rfl rfl rfl (R_loadA (vs := [_, _, _, _, _, _]) rfl ag45 rfl (mmY) rfl (atZ)) ?_
    refine WM_val rfl rfl rfl rfl (R_move rfl rfl) ?_
    refine WM_val rfl rfl rfl rfl (R_ptrNeNil rfl Try.underlying31 rfl) ?_
    refine WM_set (s := 287) (v := .bool true) rfl (by rfl) ?_
    refine WM_val rfl rfl rfl rfl (R_assign rfl rfl) ?_
    refine WM_do0 rfl rfl rfl (D_store (vs := [_, _, _, _, _, _]) rfl Try.sizeOf45 rfl rfl rfl rfl rfl (plY) (by exact Nat.le_of_ble_eq_true rfl)) ?_
    rintro _ _ rfl
    refine ⟨⟨_, pqY⟩, ?_⟩
    refine WM_val rfl rfl rfl rfl (R_assign rfl rfl) ?_
    refine WM_nil ?_
    refine WQ_code ?_
    refine WC_ret ?_
    refine WQ_ret rfl rfl (.cons (.tmp rfl) (.cons (.cell (vs := [_, _, _, _, _, _]) rfl ag45 (mmY) rfl (atZ)) (.cons (.tmp rfl) .nil))) rfl (by
        exact ⟨mc, s, l, rfl, rfl, (⟨hmc, k1.trans hb.k, k6.trans hb.V, k3.trans hb.nx, k4.trans hb.gv, k5.trans hb.last⟩ : BIs N mc s).le (Nat.le_succ N), hl.le (Nat.le_succ N), hr⟩) (pqY)

end Go.Proofs.Ytiokpmgbabpikaa
