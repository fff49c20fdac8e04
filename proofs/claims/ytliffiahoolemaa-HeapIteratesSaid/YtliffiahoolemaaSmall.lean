/-
  Chapter 02 (heap), part Small: contracts of functions that the laws call, each for the heap it names.
-/
import Derived.Test.YtliffiahoolemaaRows
import Derived.Test.YtliffiahoolemaaSLPhase
import Derived.Test.YtliffiahoolemaaSLInt
import Derived.Test.YtliffiahoolemaaTab
import Derived.Test.YtliffiahoolemaaHeapS
set_option linter.unusedVariables false
set_option maxRecDepth 20000
set_option maxHeartbeats 1000000
namespace Go.Proofs.Ytliffiahoolemaa


theorem same_ok (l : List Nat) (hl : l.length ≤ 1000000) (o1 : Option Nat) (c1 : Nat) (t1 : List Value) (o2 : Option Nat) (c2 : Nat) (t2 : List Value) (h1 : Own o1 l.length c1 1 (ivn l) t1) (h2 : Own o2 l.length c2 1 (ivn l) t2) :
    Spec Try.prog 43 [slV o1 l.length c1, slV o2 l.length c2] [⟨o1, cl (ivn l ++ t1) 3⟩, ⟨o2, cl (ivn l ++ t2) 3⟩] (fun r H' => r = .bool true ∧ H' = [⟨o1, cl (ivn l ++ t1) 3⟩, ⟨o2, cl (ivn l ++ t2) 3⟩]) := by
  refine Spec.of (E := [(0, slV o1 l.length c1), (1, slV o2 l.length c2)]) Try.func43 rfl (by kernel_rfl) Try.ntmps43 rfl rfl (fun w => ?_)
  refine WC_seq ?_
  refine WC_region ?_
  refine WL_val rfl rfl rfl (R_assign rfl rfl) ?_
  refine WL_nil ?_
  refine WQ_code ?_
  refine WC_seq ?_
  refine WC_seq ?_
  refine WC_region ?_
  refine WL_val rfl rfl rfl (R_move rfl rfl) ?_
  refine WL_val rfl rfl rfl (R_len rfl Try.underlying39 rfl) ?_
  refine WL_val rfl rfl rfl (R_move rfl rfl) ?_
  refine WL_val rfl rfl rfl (R_len rfl Try.underlying39 rfl) ?_
  refine WL_val rfl rfl rfl (R_neq rfl rfl rfl) ?_
  refine WL_nil ?_
  refine WQ_code ?_
  refine WC_dF rfl (by simp) ?_
  refine WC_skip ?_
  refine WQ_code ?_
  refine WC_seq ?_
  refine WC_seq ?_
  refine WC_region ?_
  refine WL_val rfl rfl rfl (R_assign rfl rfl) ?_
  refine WL_nil ?_
  refine WQ_code ?_
  refine WC_block ?_
  refine WC_loopF (G := Nat) [4, 5, 11, 12, 13, 14, 15, 16, 17, 18, 19, 20, 21, 22, 23, 24, 25] (fun j => j ≤ l.length) (fun j => [(5, .int .i64 (j : Int))]) (fun j => []) (fun j => l.length - j) (0) (Nat.zero_le _) (Le.lq (by repeat (first | exact Le.nil | refine Le.cons rfl (by first | rfl | (congr 1; omega)) ?_))) (by repeat (first | exact Pulls.nil | exact Pulls.all | (apply Pulls.cons; (repeat (first | exact Pull.head | apply Pull.tail))) | apply Pulls.skip)) ?_
  rintro j hj
  refine WC_seq ?_
  refine WC_seq ?_
  refine WC_region ?_
  refine WL_val rfl rfl rfl (R_move rfl rfl) ?_
  refine WL_val rfl rfl rfl (R_move rfl rfl) ?_
  refine WL_val rfl rfl rfl (R_len rfl Try.underlying39 rfl) ?_
  refine WL_val rfl rfl rfl (R_lss rfl rfl rfl) ?_
  refine WL_nil ?_
  refine WQ_code ?_
  refine WC_dec rfl (fun c1 => ?_) (fun c1 => ?_)
  · refine WC_skip ?_
    refine WQ_code ?_
    refine WC_seq ?_
    refine WC_block ?_
    refine WC_seq ?_
    refine WC_draw _ [(0, true), (1, true), (2, true), (3, true), (4, true), (5, true), (6, true), (7, true), (8, true)] followsMixed rfl rfl (by kernel_rfl) .all ?_
    obtain ⟨x, hx⟩ := exE (T := l) (i := j) (by omega)
    obtain ⟨p1, hp1⟩ := h1.some_of (by omega)
    obtain ⟨p2, hp2⟩ := h2.some_of (by omega)
    rw [hp1, hp2]
    refine WM_val rfl rfl rfl rfl (R_move rfl rfl) ?_
    refine WM_val rfl rfl rfl rfl (R_move rfl rfl) ?_
    refine WM_val rfl rfl rfl rfl (R_indexAddrN rfl Try.underlying39 Try.sizeOf3 rfl rfl (by omega)) ?_
    refine WM_val rfl rfl rfl rfl (R_load (v := .int .i64 ((x : Nat) : Int)) rfl sc3 rfl (by repeat (first | exact List.Mem.head _ | refine List.Mem.tail _ ?_)) (fm_get0 encN1 hx (j := 0) (by omega))) ?_
    refine WM_val rfl rfl rfl rfl (R_move rfl rfl) ?_
    refine WM_val rfl rfl rfl rfl (R_move rfl rfl) ?_
    refine WM_val rfl rfl rfl rfl (R_indexAddrN rfl Try.underlying39 Try.sizeOf3 rfl rfl (by omega)) ?_
    refine WM_val rfl rfl rfl rfl (R_load (v := .int .i64 ((x : Nat) : Int)) rfl sc3 rfl (by repeat (first | exact List.Mem.head _ | refine List.Mem.tail _ ?_)) (fm_get0 encN1 hx (j := 0) (by omega))) ?_
    refine WM_val rfl rfl rfl rfl (R_neq rfl rfl rfl) ?_
    refine WM_nil ?_
    refine WQ_code ?_
    refine WC_dF rfl (by simp) ?_
    refine WC_skip ?_
    refine WQ_code ?_
    refine WC_region ?_
    refine WL_val rfl rfl rfl (R_move rfl rfl) ?_
    refine WL_val rfl rfl rfl (R_add rfl rfl rfl (by omega)) ?_
    refine WL_val rfl rfl rfl (R_assign rfl rfl) ?_
    refine WL_nil ?_
    refine WQ_nextF (j + 1) (by omega) (by omega) (Le.lq (by repeat (first | exact Le.nil | refine Le.cons rfl (by first | rfl | (congr 1; omega)) ?_))) (by repeat (first | exact Pushed.refl | refine Pushed.push rfl ?_)) rfl (by repeat (first | exact Pulls.nil | exact Pulls.all | (apply Pulls.cons; (repeat (first | exact Pull.head | apply Pull.tail))) | apply Pulls.skip))
  · refine WC_exit ?_
    refine WQ_code ?_
    refine WC_seq ?_
    refine WC_region ?_
    refine WL_val rfl rfl rfl (R_assign rfl rfl) ?_
    refine WL_nil ?_
    refine WQ_code ?_
    refine WC_ret ?_
    refine WQ_ret rfl rfl (.cons (.tmp rfl) .nil) rfl (by
        exact ⟨rfl, rfl⟩) (by repeat (first | exact Pulls.nil | exact Pulls.all | (apply Pulls.cons; (repeat (first | exact Pull.head | apply Pull.tail))) | apply Pulls.skip))
theorem pushes_ok (g : HM) (W : List WE) (hg : HIs W g) (h : W.length < 1024) (hb : g.n + 1 < 9000000000000000000) (f : Nat) (hf : IsFree W f) (k : Nat) (v : Int) : Spec Try.prog 23 [ptrH g.p, .int .u64 (k : Int), .int .i64 v, .int .i64 (f : Int)] (gH g)
    (fun r H' => ∃ g' : HM, r = .bool true ∧ H' = gH g' ∧ g'.p = g.p ∧ g'.n = g.n + 1 ∧ HIs (W ++ [⟨f, v, k, g.n + 1⟩]) g') := by
  refine Spec.of (E := [(0, ptrH g.p), (1, .int .u64 (k : Int)), (2, .int .i64 v), (3, .int .i64 (f : Int))]) Try.func23 rfl (by kernel_rfl) Try.ntmps23 rfl rfl (fun w => ?_)
  refine WC_seq ?_
  refine WC_region ?_
  refine WL_val rfl rfl rfl (R_assign rfl rfl) ?_
  refine WL_nil ?_
  refine WQ_code ?_
  refine WC_seq ?_
  refine WC_region ?_
  refine WL_val rfl rfl rfl (R_move rfl rfl) ?_
  refine WL_val rfl rfl rfl (R_move rfl rfl) ?_
  refine WL_val rfl rfl rfl (R_move rfl rfl) ?_
  refine WL_do rfl rfl rfl (D_call (hpush_ok g W hg h hb f hf k v) rfl rfl rfl rfl (by repeat (first | exact Pulls.nil | exact Pulls.all | (apply Pulls.cons; (repeat (first | exact Pull.head | apply Pull.tail))) | apply Pulls.skip))) ?_
  rintro _ _ ⟨_, ⟨g', rfl, rfl, hgp, hgn, hg'⟩, rfl⟩
  refine WL_val rfl rfl rfl (R_move rfl rfl) ?_
  refine WL_val rfl rfl rfl (R_extract rfl rfl rfl) ?_
  refine WL_val rfl rfl rfl (R_extract rfl rfl rfl) ?_
  refine WL_val rfl rfl rfl (R_assign rfl rfl) ?_
  refine WL_val rfl rfl rfl (R_assign rfl rfl) ?_
  refine WL_nil ?_
  refine WQ_code ?_
  refine WC_seq ?_
  refine WC_region ?_
  refine WL_val rfl rfl rfl (R_move rfl rfl) ?_
  refine WL_val rfl rfl rfl (R_move rfl rfl) ?_
  refine WL_val rfl rfl rfl (R_eql rfl rfl rfl) ?_
  refine WL_set (s := 20) (v := .bool true) rfl (by simp) ?_
  refine WL_val rfl rfl rfl (R_move rfl rfl) ?_
  refine WL_val rfl rfl rfl (R_move rfl rfl) ?_
  refine WL_val rfl rfl rfl (R_eql rfl rfl rfl) ?_
  refine WL_set (s := 23) (v := .bool true) rfl (by simp) ?_
  refine WL_val rfl rfl rfl (R_pickT rfl rfl rfl) ?_
  refine WL_val rfl rfl rfl (R_assign rfl rfl) ?_
  refine WL_nil ?_
  refine WQ_code ?_
  refine WC_ret ?_
  refine WQ_ret rfl rfl (.cons (.tmp rfl) .nil) rfl (by
      exact ⟨g', rfl, rfl, hgp, hgn, hg'⟩) (by repeat (first | exact Pulls.nil | exact Pulls.all | (apply Pulls.cons; (repeat (first | exact Pull.head | apply Pull.tail))) | apply Pulls.skip))
structure NS where
  l : List Nat
  ob : Option Nat
  c : Nat
  tl : List Value
theorem lall_ok (g : HM) (W : List WE) (hg : HIs W g) (O : List WE) (hO : IsOrd W O) (o2 : Option Nat) (c2 : Nat) (t2 : List Value) (own : Own o2 (hds O).length c2 1 (ivn (hds O)) t2) :
    Spec Try.prog 22 [ptrH g.p, slV o2 (hds O).length c2] (⟨o2, cl (ivn (hds O) ++ t2) 3⟩ :: gH g) (fun r H' => r = .bool true ∧ H' = ⟨o2, cl (ivn (hds O) ++ t2) 3⟩ :: gH g) := by
  have hlw : (hds O).length = W.length := by rw [List.length_map, hO.len]
  have hle : W.length ≤ 1024 := by rw [← hg.hp.len]; exact hg.hp.cap
  refine Spec.ofM (E := [(0, ptrH g.p), (1, slV o2 (hds O).length c2)]) Try.func22 rfl (by kernel_rfl) Try.ntmps22 rfl rfl (fun w => ?_)
  refine WC_seq ?_
  refine WC_region ?_
  refine WL_val rfl rfl rfl (R_assign rfl rfl) ?_
  refine WL_nil ?_
  refine WQ_code ?_
  refine WC_seq ?_
  refine WC_region ?_
  refine WL_val rfl rfl rfl (R_move rfl rfl) ?_
  refine WL_do rfl rfl rfl (D_call (hall_ok g W hg) rfl rfl rfl rfl (by repeat (first | exact Pulls.nil | exact Pulls.all | (apply Pulls.cons; (repeat (first | exact Pull.head | apply Pull.tail))) | apply Pulls.skip))) ?_
  rintro _ _ ⟨_, ⟨O2, bb, ob, c3, t3, rfl, hO2, own3, rfl⟩, rfl⟩
  obtain rfl := hO.one hO2
  rw [← hlw] at own3
  refine WL_val rfl rfl rfl (R_assign rfl rfl) ?_
  refine WL_nil ?_
  refine WQ_code ?_
  refine WC_seq ?_
  refine WC_seq ?_
  refine WC_region ?_
  refine WL_val rfl rfl rfl (R_move rfl rfl) ?_
  refine WL_val rfl rfl rfl (R_funcEqNil rfl Try.underlying50 rfl) ?_
  refine WL_nil ?_
  refine WQ_code ?_
  refine WC_F rfl ?_
  refine WC_skip ?_
  refine WQ_code ?_
  refine WC_seq ?_
  refine WC_region ?_
  refine WL_do rfl rfl rfl (D_alloc rfl zv39) ?_
  rintro _ _ ⟨b1, rfl, rfl⟩
  refine WL_nil ?_
  refine WQ_code ?_
  refine WC_seq ?_
  refine WC_seq ?_
  refine WC_region ?_
  refine WL_val rfl rfl rfl (R_move rfl rfl) ?_
  refine WL_nil ?_
  refine WQ_code ?_
  refine WC_block ?_
  refine WC_none 3 ?_
  refine WC_range (G := NS) (GX := Unit) (vit_ok bb ob W.length c3 (hds O) t3 (hlw ▸ own3) (by omega)) rfl rfl (fun _ => rfl) rfl (fun pre y => y.l = pre ∧ Own y.ob y.l.length y.c 1 (ivn y.l) y.tl) (fun y => [⟨some b1, cl [slV y.ob y.l.length y.c] 39⟩, ⟨y.ob, cl (ivn y.l ++ y.tl) 3⟩]) (fun _ _ _ => False) (fun _ => []) (⟨[], none, 0, []⟩) (⟨rfl, Own.empty 1⟩) (by repeat (first | exact Pulls.nil | exact Pulls.all | (apply Pulls.cons; (repeat (first | exact Pull.head | apply Pull.tail))) | apply Pulls.skip)) (by repeat (first | exact Pulls.nil | exact Pulls.all | (apply Pulls.cons; (repeat (first | exact Pull.head | apply Pull.tail))) | apply Pulls.skip)) ?_ ?_ ?_
  · intro l pre x suf gg hx hI w2
    obtain ⟨hgl, hown⟩ := hI
    have hl9 := congrArg List.length hx
    simp only [List.length_append, List.length_cons] at hl9
    have hgl2 : gg.l.length = pre.length := by rw [hgl]
    refine WC_region ?_
    refine WL_val rfl rfl rfl (R_assign rfl rfl) ?_
    refine WL_nil ?_
    refine WQ_begin (fun w3 => ?_)
    refine WC_block ?_
    refine WC_region ?_
    refine WL_val rfl rfl rfl (R_load rfl sc39 rfl (by repeat (first | exact List.Mem.head _ | refine List.Mem.tail _ ?_)) rfl) ?_
    refine WL_val rfl rfl rfl (R_move rfl rfl) ?_
    refine WL_do rfl rfl rfl (D_buildSlice rfl si39 rfl rfl rfl) ?_
    rintro _ _ ⟨b2, rfl, rfl⟩
    refine WL_do rfl rfl rfl (D_append rfl si39 rfl (hown) (by repeat (first | exact Pull.head | apply Pull.tail)) rfl (by repeat (first | exact List.Mem.head _ | refine List.Mem.tail _ ?_)) ((by repeat (first | exact At.nil | refine At.cons ?_ | refine At.succ ?_) : At _ 0 [_])) (rfl) (rfl) (by omega) (by omega)) ?_
    rintro _ _ ⟨ob3, cap3, tl3, rfl, own3, rfl⟩
    have hsn : ivn gg.l ++ [Value.int .i64 ((x : Nat) : Int)] = ivn (gg.l ++ [x]) := by rw [ivn_snoc]
    rw [hsn] at own3 ⊢
    refine WL_do0 rfl rfl (D_store (vs := [_]) rfl Try.sizeOf39 rfl rfl rfl rfl rfl (by repeat (first | exact Pull.head | apply Pull.tail)) (by exact Nat.le_of_ble_eq_true rfl)) ?_
    rintro _ _ rfl
    refine WL_nil ?_
    rw [show gg.l.length + 1 = (gg.l ++ [x]).length from by rw [List.length_append, List.length_singleton]]
    refine WQ_rnd (⟨gg.l ++ [x], ob3, cap3, tl3⟩) ?_ (by repeat (first | exact Pulls.nil | exact Pulls.all | (apply Pulls.cons; (repeat (first | exact Pull.head | apply Pull.tail))) | apply Pulls.skip))
    exact (⟨by rw [hgl], by dsimp only; rw [List.length_append, List.length_singleton]; exact own3⟩)
  · intro dl gg hI
    obtain ⟨hgl, hown⟩ := hI
    rw [hgl]
    rw [hgl] at hown
    refine WQ_code ?_
    refine WC_seq ?_
    refine WC_region ?_
    refine WL_val rfl rfl rfl (R_load rfl sc39 rfl (by repeat (first | exact List.Mem.head _ | refine List.Mem.tail _ ?_)) rfl) ?_
    refine WL_val rfl rfl rfl (R_move rfl rfl) ?_
    refine WL_do rfl rfl rfl (D_call (same_ok (hds O) (by omega) gg.ob gg.c gg.tl o2 c2 t2 hown own) rfl rfl rfl rfl (by repeat (first | exact Pulls.nil | exact Pulls.all | (apply Pulls.cons; (repeat (first | exact Pull.head | apply Pull.tail))) | apply Pulls.skip))) ?_
    rintro _ _ ⟨_, ⟨rfl, rfl⟩, rfl⟩
    refine WL_val rfl rfl rfl (R_assign rfl rfl) ?_
    refine WL_nil ?_
    refine WQ_code ?_
    refine WC_ret ?_
    refine WQ_retM rfl (by repeat (first | exact Pull.head | apply Pull.tail)) rfl (.cons (.tmp rfl) .nil) rfl (by
        exact ⟨rfl, rfl⟩) (by repeat (first | exact Pulls.nil | exact Pulls.all | (apply Pulls.cons; (repeat (first | exact Pull.head | apply Pull.tail))) | apply Pulls.skip))
  · intro dl c pre gx hIx
    exact hIx.elim

end Go.Proofs.Ytliffiahoolemaa
