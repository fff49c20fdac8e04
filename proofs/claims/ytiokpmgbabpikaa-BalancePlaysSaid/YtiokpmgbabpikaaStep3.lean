/-
  Chapter 48 (balance), part Step3: contracts of functions that the laws call, each for the heap it names.
-/
import Derived.Test.YtiokpmgbabpikaaRows
import Derived.Test.YtiokpmgbabpikaaZSLOpt
import Derived.Test.YtiokpmgbabpikaaTab
import Derived.Test.YtiokpmgbabpikaaStepM
import Derived.Test.YtiokpmgbabpikaaStep1
import Derived.Test.YtiokpmgbabpikaaSLStay
set_option linter.unusedVariables false
set_option maxRecDepth 20000
set_option maxHeartbeats 8000000
namespace Go.Proofs.Ytiokpmgbabpikaa


theorem st_doneW {N : Nat} {m : Bm} {s : BS} {l : Lm} (hb : BIs N m s) (hl : LmIs N l) (hr : Rel s l) (hN : N ≤ 8000) (wt n : Int) (now : Nat) (key : ByteArray) (good : Bool) (h1 : l.last ≤ now) (h2 : now ≤ 18446744073709551614) (h0 : wt = 1) (hc : n ∈ s.C.map (·.1)) (wc : Nat) (hwc : l.co = some wc) : Spec Try.prog 15 [ptrB m.p, .agg #[.int .i64 (l.kd : Int), slV (some l.lo) l.n l.lc, .int .i64 (l.nx : Int), .int .i64 (l.gv : Int), slV (some wc) l.CL.length l.cc, .int .u64 (l.last : Int)], .agg #[.int .i64 wt, .int .i64 n, .int .u64 (now : Int), .string key, .bool good]] (balH m ++ (lH1 l :: ⟨some wc, cl (l.CL.flatMap encCl ++ l.ct) 88⟩ :: bks l.L)) (fun r H' => ∃ m2 s2 l2, r = .tuple #[ptrB m2.p, lmV l2, .bool true] ∧ H' = balH m2 ++ lmH l2 ∧ BIs (N + 1) m2 s2 ∧ LmIs (N + 1) l2 ∧ Rel s2 l2) := by
  have hml : m.last = l.last := hb.last.trans hr.last.symm
  have hsl : s.last = l.last := hr.last.symm
  have hln : l.n = s.V.length := by rw [← hl.hn, cq_len (hr.to hb), hb.is.hn]; exact hb.len
  have hnn := hl.n
  have hgv : s.gv = l.gv := hr.gv.symm
  have hglv := hl.gv
  have hcll := hl.cl
  have hnd := hr.keys hb
  obtain ⟨A, x, B, hCL, hxn, hA⟩ := first_at (l := l.CL) (n := n) (by rw [hr.C, List.map_reverse]; exact List.mem_reverse.2 hc)
  obtain ⟨n', j', gn⟩ := x
  obtain rfl : n = n' := hxn.symm
  have hxC : (n, (j', gn)) ∈ s.C := by rw [← List.mem_reverse, ← hr.C, hCL]; simp
  have hbk := hb.is.bk _ hxC
  dsimp only at hbk
  obtain ⟨j, rfl⟩ := Int.eq_ofNat_of_zero_le hbk.1
  have hjn : j < l.n := by have := hb.len; omega
  have hhn := hl.hn
  obtain ⟨x9, hx9⟩ := getE (T := l.L) (i := j) (by omega)
  obtain ⟨y9, hy9, _, _, _, eb⟩ := hr.get hb hx9
  have hgn := hb.is.gn _ hxC
  have hgn2 : 0 ≤ gn ∧ gn ≤ x9.b.gen := ⟨hgn.1, by rw [eb]; exact hgn.2 y9 (by dsimp only; rw [Int.toNat_natCast]; exact hy9)⟩
  have hfx := hr.fit hb (now := now) (by omega) x9 (List.mem_of_getElem? hx9)
  have hax := hr.act hb x9 (List.mem_of_getElem? hx9)
  have hlen : l.CL.length = A.length + (B.length + 1) := by rw [hCL, List.length_append, List.length_cons]
  have hAt : l.CL[A.length]? = some (n, ((j : Int), gn)) := by rw [hCL, List.getElem?_append_right (Nat.le_refl _), Nat.sub_self]; rfl
  have hcc := hl.o2.le
  have hccb := hl.o2.big
  have hjl : j < l.L.length := by omega
  have hatp : At (l.CL.flatMap encCl ++ l.ct) 0 (A.flatMap encCl) := by rw [hCL]; exact at_pre A _ l.ct
  have hats : At (l.CL.flatMap encCl ++ l.ct) (if l.cc = A.length + 1 then 0 else 0 + (A.length + 1) * 3) (B.flatMap encCl) := by rw [hCL]; exact at_suf encCl3 A B _ l.ct l.cc (by rw [← hCL]; exact hcc)
  have hlB : (B.flatMap encCl).length = (l.CL.length - (A.length + 1)) * 3 := by rw [fm_length encCl3]; omega
  have hS : doneS l.L now j gn good = l.L.set j { x9 with act := x9.act - 1, b := dnK x9.b now gn good } := by unfold doneS; rw [gB_at hx9]
  have hSe : (l.L.set j { x9 with act := x9.act - 1 }).flatMap encLB = (doneS l.L now j gn good).flatMap encLB := by
    rw [hS, List.flatMap_def, List.flatMap_def, List.map_set, List.map_set]
  have hSb : bks (l.L.set j { x9 with b := dnK x9.b now gn good }) = bks (doneS l.L now j gn good) := by
    unfold bks
    rw [hS, List.map_set, List.map_set]
  have hx2 : (doneS l.L now j gn good)[j]? = some { x9 with act := x9.act - 1, b := dnK x9.b now gn good } := by rw [hS, List.getElem?_set, if_pos rfl, if_pos hjl]
  refine Spec.of (E := [(0, ptrB m.p), (1, .agg #[.int .i64 (l.kd : Int), slV (some l.lo) l.n l.lc, .int .i64 (l.nx : Int), .int .i64 (l.gv : Int), slV (some wc) l.CL.length l.cc, .int .u64 (l.last : Int)]), (2, .agg #[.int .i64 wt, .int .i64 n, .int .u64 (now : Int), .string key, .bool good])]) Try.func15 rfl (by kernel_rfl) Try.ntmps15 rfl rfl (fun w => ?_)
  refine WC_seq ?_
  refine WC_region ?_
  refine WL_do rfl rfl rfl (D_box (cs := [_, _, _, _, _, _]) rfl rfl rfl) ?_
  rintro _ _ ⟨b1, rfl, rfl⟩
  refine WL_do rfl rfl rfl (D_box (cs := [_, _, _, _, _]) rfl rfl rfl) ?_
  rintro _ _ ⟨b2, rfl, rfl⟩
  refine WL_val rfl rfl rfl (R_assign rfl rfl) ?_
  refine WL_do rfl rfl rfl (D_alloc rfl zv45) ?_
  rintro _ _ ⟨b3, rfl, rfl⟩
  refine WL_val rfl rfl rfl (R_assign rfl rfl) ?_
  refine WL_nil ?_
  refine WQ_code ?_
  refine WC_seq ?_
  refine WC_region ?_
  refine WL_val rfl rfl rfl (R_fieldAddr rfl fa48_2 rfl) ?_
  refine WL_val rfl rfl rfl (R_load rfl sc30 rfl (mmY) rfl) ?_
  refine WL_val rfl rfl rfl (R_fieldAddr rfl fa45_5 rfl) ?_
  refine WL_val rfl rfl rfl (R_load rfl sc30 rfl (mmY) rfl) ?_
  refine WL_val rfl rfl rfl (R_lss rfl rfl rfl) ?_
  refine WL_val rfl rfl rfl (R_move rfl rfl) ?_
  refine WL_set (s := 26) (v := .bool false) rfl (by exact congrArg Value.bool (decide_eq_false (by omega))) ?_
  refine WL_val rfl rfl rfl (R_fieldAddr rfl fa48_2 rfl) ?_
  refine WL_val rfl rfl rfl (R_load rfl sc30 rfl (mmY) rfl) ?_
  refine WL_val rfl rfl rfl (R_eql rfl rfl rfl) ?_
  refine WL_val rfl rfl rfl (R_pickF rfl rfl rfl) ?_
  refine WL_val rfl rfl rfl (R_assign rfl rfl) ?_
  refine WL_nil ?_
  refine WQ_code ?_
  refine WC_seq ?_
  refine WC_seq ?_
  refine WC_region ?_
  refine WL_val rfl rfl rfl (R_fieldAddr rfl fa48_0 rfl) ?_
  refine WL_val rfl rfl rfl (R_load rfl sc3 rfl (mmY) rfl) ?_
  refine WL_nil ?_
  refine WQ_code ?_
  refine WC_block ?_
  refine WC_seq ?_
  refine WC_region ?_
  refine WL_val rfl rfl rfl (R_eql rfl rfl rfl) ?_
  refine WL_val rfl rfl rfl (R_assign rfl rfl) ?_
  refine WL_nil ?_
  refine WQ_code ?_
  refine WC_dF rfl (by omega) ?_
  refine WC_seq ?_
  refine WC_region ?_
  refine WL_val rfl rfl rfl (R_eql rfl rfl rfl) ?_
  refine WL_val rfl rfl rfl (R_assign rfl rfl) ?_
  refine WL_nil ?_
  refine WQ_code ?_
  refine WC_dT rfl (by exact h0) ?_
  refine WC_seq ?_
  refine WC_region ?_
  refine WL_val rfl rfl rfl (R_move rfl rfl) ?_
  refine WL_val rfl rfl rfl (R_fieldAddr rfl fa48_2 rfl) ?_
  refine WL_val rfl rfl rfl (R_load rfl sc30 rfl (mmY) rfl) ?_
  refine WL_val rfl rfl rfl (R_fieldAddr rfl fa48_1 rfl) ?_
  refine WL_val rfl rfl rfl (R_load rfl sc3 rfl (mmY) rfl) ?_
  refine WL_val rfl rfl rfl (R_fieldAddr rfl fa48_4 rfl) ?_
  refine WL_val rfl rfl rfl (R_load rfl sc4 rfl (mmY) rfl) ?_
  refine WL_do rfl rfl rfl (D_call (bd_ok hb (by omega) now n good (by omega) h2 j gn hxC) rfl rfl rfl rfl (pqY)) ?_
  rintro _ _ ⟨_, ⟨m2, rfl, rfl, hp2, g2⟩, rfl⟩
  rw [← hp2]
  refine WL_val rfl rfl rfl (R_assign rfl rfl) ?_
  refine WL_nil ?_
  refine WQ_code ?_
  refine WC_seq ?_
  refine WC_seq ?_
  refine WC_region ?_
  refine WL_val rfl rfl rfl (R_move rfl rfl) ?_
  refine WL_nil ?_
  refine WQ_code ?_
  refine WC_dF rfl (by omega) ?_
  refine WC_skip ?_
  refine WQ_code ?_
  refine WC_seq ?_
  refine WC_seq ?_
  refine WC_region ?_
  refine WL_val rfl rfl rfl (R_assign rfl rfl) ?_
  refine WL_nil ?_
  refine WQ_code ?_
  refine WC_block ?_
  refine WC_loopF (G := Nat) [6, 8, 17, 18, 159, 160, 161, 162, 163, 164, 165, 166, 167, 168, 169, 170, 171, 172, 173, 174, 175, 176, 177, 178, 179, 180, 181, 182, 183, 184, 185, 186, 187, 188, 189, 190, 191, 192, 193, 194, 195, 196, 197, 198, 199, 200, 201, 202, 203, 204, 205, 206, 207, 208, 209, 210, 211, 212, 213, 214, 215, 216, 217, 218, 219, 220, 221, 222, 223, 224, 225] (fun y => y ≤ A.length) (fun y => [(17, .int .i64 (y : Int))]) (fun y => []) (fun y => l.CL.length - y) (0) (Nat.zero_le _) leZ (pqY) ?_
  rintro y hy
  refine WC_seq ?_
  refine WC_seq ?_
  refine WC_region ?_
  refine WL_val rfl rfl rfl (R_move rfl rfl) ?_
  refine WL_val rfl rfl rfl (R_fieldAddr rfl fa45_4 rfl) ?_
  refine WL_val rfl rfl rfl (R_load rfl sc43 rfl (mmY) rfl) ?_
  refine WL_val rfl rfl rfl (R_len rfl Try.underlying43 rfl) ?_
  refine WL_val rfl rfl rfl (R_lss rfl rfl rfl) ?_
  refine WL_nil ?_
  refine WQ_code ?_
  refine WC_dec rfl (fun c1 => ?_) (fun c1 => ?_)
  · refine WC_skip ?_
    refine WQ_code ?_
    refine WC_seq ?_
    refine WC_block ?_
    refine WC_seq ?_
    refine WC_region ?_
    obtain ⟨c9, hc9⟩ := getE (T := l.CL) (i := y) (by omega)
    refine WL_val rfl rfl rfl (R_fieldAddr rfl fa45_4 rfl) ?_
    refine WL_val rfl rfl rfl (R_load rfl sc43 rfl (mmY) rfl) ?_
    refine WL_val rfl rfl rfl (R_move rfl rfl) ?_
    refine WL_val rfl rfl rfl (R_indexAddrN rfl Try.underlying43 Try.sizeOf88 rfl rfl (by omega)) ?_
    refine WL_val rfl rfl rfl (R_loadA (vs := encCl c9) rfl ag88 rfl (mmY) rfl (fm_at0 encCl3 hc9 (j := 0) (vs := encCl c9) (fun j v h => by rw [Nat.zero_add]; exact h) (Nat.le_refl _))) ?_
    refine WL_do rfl rfl rfl (D_alloc rfl zv88) ?_
    rintro _ _ ⟨b4, rfl, rfl⟩
    refine WL_do0 rfl rfl (D_store (vs := [_, _, _]) rfl Try.sizeOf88 rfl rfl rfl rfl rfl (plY) (by exact Nat.le_of_ble_eq_true rfl)) ?_
    rintro _ _ rfl
    refine WL_nil ?_
    refine WQ_code ?_
    refine WC_seq ?_
    refine WC_seq ?_
    refine WC_region ?_
    refine WL_val rfl rfl rfl (R_fieldAddr rfl fa88_0 rfl) ?_
    refine WL_val rfl rfl rfl (R_load (v := .int .i64 c9.1) rfl sc3 rfl (mmY) (rfl)) ?_
    refine WL_val rfl rfl rfl (R_fieldAddr rfl fa48_1 rfl) ?_
    refine WL_val rfl rfl rfl (R_load rfl sc3 rfl (mmY) rfl) ?_
    refine WL_val rfl rfl rfl (R_neq rfl rfl rfl) ?_
    refine WL_nil ?_
    refine WQ_code ?_
    refine WC_dec rfl (fun c2 => ?_) (fun c2 => ?_)
    · have hyA : y < A.length := by rcases Nat.lt_or_ge y A.length with h9 | h9; exact h9; (obtain rfl : y = A.length := by omega); rw [hAt] at hc9; obtain rfl := Option.some.inj hc9; exact absurd rfl c2
      refine WC_exit ?_
      refine WQ_code ?_
      refine WC_region ?_
      refine WL_val rfl rfl rfl (R_move rfl rfl) ?_
      refine WL_val rfl rfl rfl (R_add rfl rfl rfl (by omega)) ?_
      refine WL_val rfl rfl rfl (R_assign rfl rfl) ?_
      refine WL_nil ?_
      refine WQ_nextF (y + 1) (by omega) (by omega) leZ (psZ) rfl (pqY)
    · have hyA : y = A.length := by rcases Nat.lt_or_ge y A.length with h9 | h9; (rw [hCL, List.getElem?_append_left h9] at hc9; exact absurd (Decidable.not_not.1 c2) (hA c9 (List.mem_of_getElem? hc9))); omega
      subst hyA
      obtain rfl : c9 = (n, ((j : Int), gn)) := by rw [hAt] at hc9; exact (Option.some.inj hc9).symm
      refine WC_none 82 ?_
      refine WC_none 88 ?_
      refine WC_skip ?_
      refine WQ_code ?_
      refine WC_seq ?_
      refine WC_drawY (⟨some b1, _⟩ :: [⟨none, cl [] 88⟩]) [(b1, 4, slV (some wc) l.CL.length l.cc)] [12] [(0, false), (1, true), (2, false), (3, false), (5, false), (6, true)] [(7, true), (8, true), (9, true), (4, false), (10, false), (11, true), (12, false)] followsMixed rfl rfl (by kernel_rfl) (pqY) (.cons (mmY) rfl .nil) ?_
      refine WYE_val rfl rfl rfl rfl (R_fieldAddr rfl fa45_4 rfl) ?_
      refine WYE_early rfl rfl rfl rfl rfl sc43 rfl (by repeat (first | exact List.Mem.head _ | refine List.Mem.tail _ ?_)) ?_
      refine WYE_val rfl rfl rfl rfl (R_move rfl rfl) ?_
      refine WYE_val rfl rfl rfl rfl (R_sliceTo (m := A.length) rfl Try.underlying43 Try.sizeOf88 rfl rfl (by omega)) ?_
      refine WYE_val rfl rfl rfl rfl (R_fieldAddr rfl fa45_4 rfl) ?_
      refine WYE_early rfl rfl rfl rfl rfl sc43 rfl (by repeat (first | exact List.Mem.head _ | refine List.Mem.tail _ ?_)) ?_
      refine WYE_rest ?_
      refine WY_val rfl rfl rfl rfl (R_move rfl rfl) ?_
      refine WY_val rfl rfl rfl rfl (R_addR (r := ((A.length + 1 : Nat) : Int)) rfl rfl rfl (by rw [wrap64_in (by omega) (by omega)]; omega)) ?_
      refine WY_val rfl rfl rfl rfl (R_sliceFromK (m := A.length + 1) rfl Try.underlying43 Try.sizeOf88 rfl rfl (by omega)) ?_
      refine WY_do rfl rfl rfl rfl (D_append rfl si43 rfl (Own.empty 3) plY rfl mmY hatp (fm_length encCl3 A) (encCl_one A) (by omega) (by omega)) ?_
      rintro _ _ ⟨co3, cc3, ct3, rfl, oc3, rfl⟩
      refine ⟨⟨_, pqY⟩, .inr (.cons (mmY) rfl .nil), ?_⟩
      refine WY_do rfl rfl rfl rfl (D_append rfl si43 rfl oc3 plY rfl mmY hats hlB (encCl_one B) (by omega) (by omega)) ?_
      rintro _ _ ⟨co4, cc4, ct4, rfl, oc4, rfl⟩
      refine ⟨⟨_, pqY⟩, .inr (.cons (mmY) rfl .nil), ?_⟩
      rw [show [] ++ A.flatMap encCl ++ B.flatMap encCl = (A ++ B).flatMap encCl from by simp, show 0 + A.length + (l.CL.length - (A.length + 1)) = (A ++ B).length from by rw [List.length_append]; omega] at oc4 ⊢
      refine WY_val rfl rfl rfl rfl (R_fieldAddr rfl fa45_4 rfl) ?_
      refine WY_do0 rfl rfl rfl (D_store (vs := [_]) rfl Try.sizeOf43 rfl rfl rfl rfl rfl (plY) (by exact Nat.le_of_ble_eq_true rfl)) ?_
      rintro _ _ rfl
      refine ⟨⟨_, pqY⟩, .inl rfl, ?_⟩
      refine WY_nil ?_
      refine WQ_code ?_
      refine WC_seq ?_
      refine WC_region ?_
      refine WL_val rfl rfl rfl (R_fieldAddr rfl fa45_1 rfl) ?_
      refine WL_val rfl rfl rfl (R_load rfl sc42 rfl (mmY) rfl) ?_
      refine WL_do rfl rfl rfl (D_appendO rfl si42 rfl (Own.empty 5) plY rfl hl.o1 mmY (encLB_one _) (by omega) (by omega)) ?_
      rintro _ _ ⟨lo2, lc2, lt2, rfl, ol2, rfl⟩
      rw [Nat.zero_add, List.nil_append] at ol2
      rw [show 0 + l.n = l.n from Nat.zero_add _, show [] ++ l.L.flatMap encLB = l.L.flatMap encLB from rfl]
      obtain ⟨w2, rfl⟩ := ol2.some_of (by omega)
      refine WL_val rfl rfl rfl (R_fieldAddr rfl fa45_1 rfl) ?_
      refine WL_do0 rfl rfl (D_store (vs := [_]) rfl Try.sizeOf42 rfl rfl rfl rfl rfl (plY) (by exact Nat.le_of_ble_eq_true rfl)) ?_
      rintro _ _ rfl
      refine WL_nil ?_
      refine WQ_code ?_
      refine WC_seq ?_
      refine WC_region ?_
      refine WL_val rfl rfl rfl (R_fieldAddr rfl fa45_1 rfl) ?_
      refine WL_val rfl rfl rfl (R_load rfl sc42 rfl (mmY) rfl) ?_
      refine WL_val rfl rfl rfl (R_fieldAddr rfl fa88_1 rfl) ?_
      refine WL_val rfl rfl rfl (R_load (v := .int .i64 (j : Int)) rfl sc3 rfl (mmY) (rfl)) ?_
      refine WL_val rfl rfl rfl (R_indexAddrN rfl Try.underlying42 Try.sizeOf82 rfl rfl (by omega)) ?_
      refine WL_val rfl rfl rfl (R_fieldAddr rfl fa82_2 rfl) ?_
      refine WL_val rfl rfl rfl (R_load (v := .int .i64 x9.act) rfl sc3 rfl (mmY) (fm_get0 encLB5 hx9 (j := 2) (by omega))) ?_
      refine WL_val rfl rfl rfl (R_sub rfl rfl rfl (by omega)) ?_
      refine WL_val rfl rfl rfl (R_indexAddrN rfl Try.underlying42 Try.sizeOf82 rfl rfl (by omega)) ?_
      refine WL_val rfl rfl rfl (R_fieldAddr rfl fa82_2 rfl) ?_
      refine WL_do0 rfl rfl (D_store (vs := [_]) rfl Try.sizeOf3 rfl rfl rfl rfl rfl (plY) (by exact fm_room0 encLB5 hjl (j := 2) (by omega))) ?_
      rintro _ _ rfl
      have hput := fm_put0 encLB5 ({ x9 with act := x9.act - 1 } : Bk) hx9 (j := 2) (vs := [.int .i64 (x9.act - 1)]) (by simp) rfl (tl := lt2)
      rw [hput, hSe]
      refine WL_nil ?_
      refine WQ_code ?_
      refine WC_seq ?_
      refine WC_region ?_
      refine WL_val rfl rfl rfl (R_fieldAddr rfl fa48_2 rfl) ?_
      refine WL_val rfl rfl rfl (R_load rfl sc30 rfl (mmY) rfl) ?_
      refine WL_val rfl rfl rfl (R_fieldAddr rfl fa45_5 rfl) ?_
      refine WL_do0 rfl rfl (D_store (vs := [_]) rfl Try.sizeOf30 rfl rfl rfl rfl rfl (plY) (by exact Nat.le_of_ble_eq_true rfl)) ?_
      rintro _ _ rfl
      refine WL_nil ?_
      refine WQ_code ?_
      refine WC_seq ?_
      refine WC_drawR (⟨some b3, _⟩ :: bks l.L) [(0, true), (1, true), (2, true), (3, true), (4, true), (5, true), (6, true), (7, true), (8, true), (9, true), (10, true), (11, true), (12, true), (13, true), (14, true), (15, true), (16, true), (17, true), (18, false), (19, true), (20, true), (21, true), (22, false), (23, true)] followsMixed rfl rfl (by kernel_rfl) (pqY) ?_
      refine WM_val rfl rfl rfl rfl (R_move rfl rfl) ?_
      refine WM_val rfl rfl rfl rfl (R_loadA (vs := [_, _, _, _, _, _]) rfl ag45 rfl (mmY) rfl (atZ)) ?_
      refine WM_val rfl rfl rfl rfl (R_move rfl rfl) ?_
      refine WM_val rfl rfl rfl rfl (R_eql rfl rfl rfl) ?_
      refine WM_set (s := 208) (v := .bool true) rfl (by simp) ?_
      refine WM_val rfl rfl rfl rfl (R_move rfl rfl) ?_
      refine WM_val rfl rfl rfl rfl (R_fieldAddr rfl fa45_1 rfl) ?_
      refine WM_val rfl rfl rfl rfl (R_load rfl sc42 rfl (mmY) rfl) ?_
      refine WM_val rfl rfl rfl rfl (R_fieldAddr rfl fa88_1 rfl) ?_
      refine WM_val rfl rfl rfl rfl (R_load (v := .int .i64 (j : Int)) rfl sc3 rfl (mmY) (rfl)) ?_
      refine WM_val rfl rfl rfl rfl (R_indexAddrN rfl Try.underlying42 Try.sizeOf82 rfl rfl (by omega)) ?_
      refine WM_val rfl rfl rfl rfl (R_fieldAddr rfl fa82_4 rfl) ?_
      refine WM_val rfl rfl rfl rfl (R_load (v := ptrB x9.p) rfl sc69 rfl (mmY) (fm_get0 encLB5 hx2 (j := 4) (by omega))) ?_
      refine WM_val rfl rfl rfl rfl (R_fieldAddr rfl fa48_2 rfl) ?_
      refine WM_val rfl rfl rfl rfl (R_load rfl sc30 rfl (mmY) rfl) ?_
      refine WM_val rfl rfl rfl rfl (R_fieldAddr rfl fa88_2 rfl) ?_
      refine WM_val rfl rfl rfl rfl (R_load (v := .int .i64 gn) rfl sc3 rfl (mmY) (rfl)) ?_
      refine WM_val rfl rfl rfl rfl (R_fieldAddr rfl fa48_4 rfl) ?_
      refine WM_val rfl rfl rfl rfl (R_load rfl sc4 rfl (mmY) rfl) ?_
      refine WM_do rfl rfl rfl rfl (D_call (done_at hx9 hfx.1 now hfx.2 h2 gn hgn2 good) rfl rfl rfl rfl (pqY)) ?_
      rintro _ _ ⟨_, ⟨rfl, rfl⟩, rfl⟩
      refine ⟨⟨_, pqY⟩, ?_⟩
      rw [hSb]
      refine WM_val rfl rfl rfl rfl (R_eql rfl rfl rfl) ?_
      refine WM_set (s := 224) (v := .bool true) rfl (by simp) ?_
      refine WM_val rfl rfl rfl rfl (R_pickT rfl rfl rfl) ?_
      refine WM_val rfl rfl rfl rfl (R_assign rfl rfl) ?_
      refine WM_do0 rfl rfl rfl (D_store (vs := [_, _, _, _, _, _]) rfl Try.sizeOf45 rfl rfl rfl rfl rfl (plY) (by exact Nat.le_of_ble_eq_true rfl)) ?_
      rintro _ _ rfl
      refine ⟨⟨_, pqY⟩, ?_⟩
      refine WM_val rfl rfl rfl rfl (R_assign rfl rfl) ?_
      refine WM_nil ?_
      refine WQ_code ?_
      refine WC_ret ?_
      refine WQ_ret rfl rfl (.cons (.tmp rfl) (.cons (.cell (vs := [_, _, _, _, _, _]) rfl ag45 (mmY) rfl (atZ)) (.cons (.tmp rfl) .nil))) rfl (by
          exact ⟨m2, s.done now n j gn good, { l with lo := w2, lc := lc2, tl := lt2, L := doneS l.L now j gn good, last := now, co := co4, cc := cc4, ct := ct4, CL := A ++ B }, rfl, rfl, g2, lm_done hl hjn (by rw [List.length_append]; omega) ol2 oc4, hr.done hCL rfl hnd⟩) (pqY)
  · exfalso; omega
theorem st_done {N : Nat} {m : Bm} {s : BS} {l : Lm} (hb : BIs N m s) (hl : LmIs N l) (hr : Rel s l) (hN : N ≤ 8000) (wt n : Int) (now : Nat) (key : ByteArray) (good : Bool) (h1 : l.last ≤ now) (h2 : now ≤ 18446744073709551614) (h0 : wt = 1) (hc : n ∈ s.C.map (·.1)) : Spec Try.prog 15 [ptrB m.p, lmV l, .agg #[.int .i64 wt, .int .i64 n, .int .u64 (now : Int), .string key, .bool good]] (balH m ++ lmH l) (fun r H' => ∃ m2 s2 l2, r = .tuple #[ptrB m2.p, lmV l2, .bool true] ∧ H' = balH m2 ++ lmH l2 ∧ BIs (N + 1) m2 s2 ∧ LmIs (N + 1) l2 ∧ Rel s2 l2) := by
  have hpos : 0 < l.CL.length := by
    rw [hr.C, List.length_reverse]
    cases h : s.C with
    | nil => rw [h] at hc; cases hc
    | cons a r => simp
  obtain ⟨wc, hwc⟩ := hl.o2.some_of hpos
  have h := st_doneW hb hl hr hN wt n now key good h1 h2 h0 hc wc hwc
  rw [← hwc] at h
  exact h

end Go.Proofs.Ytiokpmgbabpikaa
