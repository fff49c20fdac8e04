/-
  Chapter 02 (heap), part Ref: contracts of functions that the laws call, each for the heap it names.
-/
import Derived.Test.YtliffiahoolemaaRows
import Derived.Test.YtliffiahoolemaaSLPhase
import Derived.Test.YtliffiahoolemaaSLInt
import Derived.Test.YtliffiahoolemaaTab
import Derived.Test.YtliffiahoolemaaRefL
import Derived.Test.YtliffiahoolemaaSLApp
import Derived.Test.YtliffiahoolemaaSLMore
set_option linter.unusedVariables false
set_option maxRecDepth 20000
set_option maxHeartbeats 4000000
namespace Go.Proofs.Ytliffiahoolemaa


/-- A reference with these elements, and what holds it. -/
abbrev RIs (W : List WE) (V' : Value) (H' : Heap) : Prop := ∃ o c t, V' = .agg #[slV o W.length c] ∧ Own o W.length c 3 (W.flatMap encW) t ∧ H' = [⟨o, cl (W.flatMap encW ++ t) 80⟩]
theorem rat_none (W : List WE) (o : Option Nat) (c : Nat) (t : List Value) (ho : Own o W.length c 3 (W.flatMap encW) t) (hl : W.length ≤ 100000) (i : Int) (hn : ∀ w ∈ W, (w.h : Int) ≠ i) : Spec Try.prog 41 [.agg #[slV o W.length c], .int .i64 i] [⟨o, cl (W.flatMap encW ++ t) 80⟩] (fun r H' => r = .int .i64 (-1) ∧ H' = [⟨o, cl (W.flatMap encW ++ t) 80⟩]) := by
  refine Spec.of (E := [(0, .agg #[slV o W.length c]), (1, .int .i64 i)]) Try.func41 rfl (by kernel_rfl) Try.ntmps41 rfl rfl (fun w => ?_)
  refine WC_seq ?_
  refine WC_region ?_
  refine WL_do rfl rfl rfl (D_box (cs := [_]) rfl rfl rfl) ?_
  rintro _ _ ⟨b1, rfl, rfl⟩
  refine WL_val rfl rfl rfl (R_assign rfl rfl) ?_
  refine WL_nil ?_
  refine WQ_code ?_
  refine WC_seq ?_
  refine WC_seq ?_
  refine WC_region ?_
  refine WL_val rfl rfl rfl (R_assign rfl rfl) ?_
  refine WL_nil ?_
  refine WQ_code ?_
  refine WC_block ?_
  refine WC_loopF (G := Nat) [4, 5, 6, 7, 8, 9, 10, 11, 12, 13, 14, 15, 16, 17, 18, 19, 20, 21] (fun j => j ≤ W.length) (fun j => [(5, .int .i64 (j : Int))]) (fun j => []) (fun j => W.length - j) (0) (Nat.zero_le _) (Le.lq (by repeat (first | exact Le.nil | refine Le.cons rfl (by first | rfl | (congr 1; omega)) ?_))) (by repeat (first | exact Pulls.nil | exact Pulls.all | (apply Pulls.cons; (repeat (first | exact Pull.head | apply Pull.tail))) | apply Pulls.skip)) ?_
  rintro j hj
  refine WC_seq ?_
  refine WC_seq ?_
  refine WC_region ?_
  refine WL_val rfl rfl rfl (R_move rfl rfl) ?_
  refine WL_val rfl rfl rfl (R_fieldAddr rfl fa46_0 rfl) ?_
  refine WL_val rfl rfl rfl (R_load rfl sc44 rfl (by repeat (first | exact List.Mem.head _ | refine List.Mem.tail _ ?_)) rfl) ?_
  refine WL_val rfl rfl rfl (R_len rfl Try.underlying44 rfl) ?_
  refine WL_val rfl rfl rfl (R_lss rfl rfl rfl) ?_
  refine WL_nil ?_
  refine WQ_code ?_
  refine WC_dec rfl (fun c1 => ?_) (fun c1 => ?_)
  · refine WC_skip ?_
    refine WQ_code ?_
    refine WC_seq ?_
    refine WC_block ?_
    refine WC_seq ?_
    refine WC_region ?_
    refine WL_val rfl rfl rfl (R_fieldAddr rfl fa46_0 rfl) ?_
    obtain ⟨x, hx⟩ := exE (T := W) (i := j) (by omega)
    obtain ⟨b0, hb0⟩ := ho.some_of (by omega)
    rw [hb0]
    refine WL_val rfl rfl rfl (R_load rfl sc44 rfl (by repeat (first | exact List.Mem.head _ | refine List.Mem.tail _ ?_)) rfl) ?_
    refine WL_val rfl rfl rfl (R_move rfl rfl) ?_
    refine WL_val rfl rfl rfl (R_indexAddrN rfl Try.underlying44 Try.sizeOf80 rfl rfl (by omega)) ?_
    refine WL_val rfl rfl rfl (R_fieldAddr rfl fa80_0 rfl) ?_
    refine WL_val rfl rfl rfl (R_load (v := .int .i64 (x.h : Int)) rfl sc3 rfl (by repeat (first | exact List.Mem.head _ | refine List.Mem.tail _ ?_)) (fm_get0 encW3 hx (j := 0) (by omega))) ?_
    refine WL_val rfl rfl rfl (R_move rfl rfl) ?_
    refine WL_val rfl rfl rfl (R_eql rfl rfl rfl) ?_
    refine WL_nil ?_
    refine WQ_code ?_
    refine WC_dec rfl (fun c2 => ?_) (fun c2 => ?_)
    · exact absurd c2 (hn x (List.mem_of_getElem? hx))
    · refine WC_skip ?_
      refine WQ_code ?_
      refine WC_region ?_
      refine WL_val rfl rfl rfl (R_move rfl rfl) ?_
      refine WL_val rfl rfl rfl (R_add rfl rfl rfl (by omega)) ?_
      refine WL_val rfl rfl rfl (R_assign rfl rfl) ?_
      refine WL_nil ?_
      refine WQ_nextF (j + 1) (by omega) (by omega) (Le.lq (by repeat (first | exact Le.nil | refine Le.cons rfl (by first | rfl | (congr 1; omega)) ?_))) (by repeat (first | exact Pushed.refl | refine Pushed.push rfl ?_)) rfl (by repeat (first | exact Pulls.nil | exact Pulls.all | (apply Pulls.cons; (repeat (first | exact Pull.head | apply Pull.tail))) | apply Pulls.skip))
  · refine WC_exit ?_
    refine WQ_code ?_
    refine WC_seq ?_
    refine WC_region ?_
    refine WL_val rfl rfl rfl (R_assign rfl rfl) ?_
    refine WL_nil ?_
    refine WQ_code ?_
    refine WC_ret ?_
    refine WQ_ret rfl rfl (.cons (.tmp rfl) .nil) rfl (by
        exact ⟨rfl, rfl⟩) (by repeat (first | exact Pulls.nil | exact Pulls.all | (apply Pulls.cons; (repeat (first | exact Pull.head | apply Pull.tail))) | apply Pulls.skip))
theorem rat_some (W : List WE) (o : Option Nat) (c : Nat) (t : List Value) (ho : Own o W.length c 3 (W.flatMap encW) t) (hl : W.length ≤ 100000) (hd : (hds W).Nodup) (i : Nat) (u : WE) (hi : W[i]? = some u) : Spec Try.prog 41 [.agg #[slV o W.length c], .int .i64 (u.h : Int)] [⟨o, cl (W.flatMap encW ++ t) 80⟩] (fun r H' => r = .int .i64 (i : Int) ∧ H' = [⟨o, cl (W.flatMap encW ++ t) 80⟩]) := by
  have hil := (List.getElem?_eq_some_iff.1 hi).1
  refine Spec.of (E := [(0, .agg #[slV o W.length c]), (1, .int .i64 (u.h : Int))]) Try.func41 rfl (by kernel_rfl) Try.ntmps41 rfl rfl (fun w => ?_)
  refine WC_seq ?_
  refine WC_region ?_
  refine WL_do rfl rfl rfl (D_box (cs := [_]) rfl rfl rfl) ?_
  rintro _ _ ⟨b1, rfl, rfl⟩
  refine WL_val rfl rfl rfl (R_assign rfl rfl) ?_
  refine WL_nil ?_
  refine WQ_code ?_
  refine WC_seq ?_
  refine WC_seq ?_
  refine WC_region ?_
  refine WL_val rfl rfl rfl (R_assign rfl rfl) ?_
  refine WL_nil ?_
  refine WQ_code ?_
  refine WC_block ?_
  refine WC_loopF (G := Nat) [4, 5, 6, 7, 8, 9, 10, 11, 12, 13, 14, 15, 16, 17, 18, 19, 20, 21] (fun j => j ≤ i) (fun j => [(5, .int .i64 (j : Int))]) (fun j => []) (fun j => i - j) (0) (Nat.zero_le _) (Le.lq (by repeat (first | exact Le.nil | refine Le.cons rfl (by first | rfl | (congr 1; omega)) ?_))) (by repeat (first | exact Pulls.nil | exact Pulls.all | (apply Pulls.cons; (repeat (first | exact Pull.head | apply Pull.tail))) | apply Pulls.skip)) ?_
  rintro j hj
  refine WC_seq ?_
  refine WC_seq ?_
  refine WC_region ?_
  refine WL_val rfl rfl rfl (R_move rfl rfl) ?_
  refine WL_val rfl rfl rfl (R_fieldAddr rfl fa46_0 rfl) ?_
  refine WL_val rfl rfl rfl (R_load rfl sc44 rfl (by repeat (first | exact List.Mem.head _ | refine List.Mem.tail _ ?_)) rfl) ?_
  refine WL_val rfl rfl rfl (R_len rfl Try.underlying44 rfl) ?_
  refine WL_val rfl rfl rfl (R_lss rfl rfl rfl) ?_
  refine WL_nil ?_
  refine WQ_code ?_
  refine WC_dT rfl (by omega) ?_
  refine WC_skip ?_
  refine WQ_code ?_
  refine WC_seq ?_
  refine WC_block ?_
  refine WC_seq ?_
  refine WC_region ?_
  refine WL_val rfl rfl rfl (R_fieldAddr rfl fa46_0 rfl) ?_
  obtain ⟨x, hx⟩ := exE (T := W) (i := j) (by omega)
  obtain ⟨b0, hb0⟩ := ho.some_of (by omega)
  rw [hb0]
  refine WL_val rfl rfl rfl (R_load rfl sc44 rfl (by repeat (first | exact List.Mem.head _ | refine List.Mem.tail _ ?_)) rfl) ?_
  refine WL_val rfl rfl rfl (R_move rfl rfl) ?_
  refine WL_val rfl rfl rfl (R_indexAddrN rfl Try.underlying44 Try.sizeOf80 rfl rfl (by omega)) ?_
  refine WL_val rfl rfl rfl (R_fieldAddr rfl fa80_0 rfl) ?_
  refine WL_val rfl rfl rfl (R_load (v := .int .i64 (x.h : Int)) rfl sc3 rfl (by repeat (first | exact List.Mem.head _ | refine List.Mem.tail _ ?_)) (fm_get0 encW3 hx (j := 0) (by omega))) ?_
  refine WL_val rfl rfl rfl (R_move rfl rfl) ?_
  refine WL_val rfl rfl rfl (R_eql rfl rfl rfl) ?_
  refine WL_nil ?_
  refine WQ_code ?_
  refine WC_dec rfl (fun c1 => ?_) (fun c1 => ?_)
  · obtain rfl := hds_at hd hx hi (by omega)
    refine WC_seq ?_
    refine WC_region ?_
    refine WL_val rfl rfl rfl (R_move rfl rfl) ?_
    refine WL_val rfl rfl rfl (R_assign rfl rfl) ?_
    refine WL_nil ?_
    refine WQ_code ?_
    refine WC_ret ?_
    refine WQ_ret rfl rfl (.cons (.tmp rfl) .nil) rfl (by
        exact ⟨rfl, rfl⟩) (by repeat (first | exact Pulls.nil | exact Pulls.all | (apply Pulls.cons; (repeat (first | exact Pull.head | apply Pull.tail))) | apply Pulls.skip))
  · have hne : ¬ (x.h : Int) = (u.h : Int) := c1
    refine WC_skip ?_
    refine WQ_code ?_
    refine WC_region ?_
    refine WL_val rfl rfl rfl (R_move rfl rfl) ?_
    refine WL_val rfl rfl rfl (R_add rfl rfl rfl (by omega)) ?_
    refine WL_val rfl rfl rfl (R_assign rfl rfl) ?_
    refine WL_nil ?_
    have hji : j ≠ i := by rintro rfl; rw [hi] at hx; obtain rfl := Option.some.inj hx; exact hne rfl
    refine WQ_nextF (j + 1) (by omega) (by omega) (Le.lq (by repeat (first | exact Le.nil | refine Le.cons rfl (by first | rfl | (congr 1; omega)) ?_))) (by repeat (first | exact Pushed.refl | refine Pushed.push rfl ?_)) rfl (by repeat (first | exact Pulls.nil | exact Pulls.all | (apply Pulls.cons; (repeat (first | exact Pull.head | apply Pull.tail))) | apply Pulls.skip))
theorem rat_any (W : List WE) (o : Option Nat) (c : Nat) (t : List Value) (ho : Own o W.length c 3 (W.flatMap encW) t) (hl : W.length ≤ 100000) (hd : (hds W).Nodup) (i : Int) : Spec Try.prog 41 [.agg #[slV o W.length c], .int .i64 i] [⟨o, cl (W.flatMap encW ++ t) 80⟩] (fun r H' => ∃ a : Int, r = .int .i64 a ∧ ((a = -1 ∧ ∀ w ∈ W, (w.h : Int) ≠ i) ∨ (∃ (q : Nat) (w : WE), a = (q : Int) ∧ W[q]? = some w ∧ (w.h : Int) = i)) ∧ H' = [⟨o, cl (W.flatMap encW ++ t) 80⟩]) := by
  by_cases h : ∃ w ∈ W, (w.h : Int) = i
  · obtain ⟨w, hw, rfl⟩ := h
    obtain ⟨q, hq⟩ := List.getElem?_of_mem hw
    exact (rat_some W o c t ho hl hd q w hq).mono fun r H' ⟨e1, e2⟩ => ⟨_, e1, .inr ⟨q, w, rfl, hq, rfl⟩, e2⟩
  · have hn : ∀ w ∈ W, (w.h : Int) ≠ i := fun w hw e => h ⟨w, hw, e⟩
    exact (rat_none W o c t ho hl i hn).mono fun r H' ⟨e1, e2⟩ => ⟨_, e1, .inl ⟨rfl, hn⟩, e2⟩
theorem rcopy_ok (W : List WE) (o : Option Nat) (c : Nat) (t : List Value) (ho : Own o W.length c 3 (W.flatMap encW) t) (hl : W.length ≤ 100000) : Spec Try.prog 37 [.agg #[slV o W.length c]] [⟨o, cl (W.flatMap encW ++ t) 80⟩] (fun r H' => ∃ o2 c2 t2, r = .agg #[slV o2 W.length c2] ∧ Own o2 W.length c2 3 (W.flatMap encW) t2 ∧ H' = [⟨o2, cl (W.flatMap encW ++ t2) 80⟩, ⟨o, cl (W.flatMap encW ++ t) 80⟩]) := by
  refine Spec.of (E := [(0, .agg #[slV o W.length c])]) Try.func37 rfl (by kernel_rfl) Try.ntmps37 rfl rfl (fun w => ?_)
  refine WC_seq ?_
  refine WC_region ?_
  refine WL_do rfl rfl rfl (D_box (cs := [_]) rfl rfl rfl) ?_
  rintro _ _ ⟨b1, rfl, rfl⟩
  refine WL_do rfl rfl rfl (D_alloc rfl zv46) ?_
  rintro _ _ ⟨b2, rfl, rfl⟩
  refine WL_nil ?_
  refine WQ_code ?_
  refine WC_seq ?_
  refine WC_region ?_
  refine WL_val rfl rfl rfl (R_fieldAddr rfl fa46_0 rfl) ?_
  refine WL_val rfl rfl rfl (R_load rfl sc44 rfl (by repeat (first | exact List.Mem.head _ | refine List.Mem.tail _ ?_)) rfl) ?_
  refine WL_none 80 ?_
  refine WL_do rfl rfl rfl (D_appendO rfl si44 rfl (Own.empty 3) (by repeat (first | exact Pull.head | apply Pull.tail)) rfl ho (by repeat (first | exact List.Mem.head _ | refine List.Mem.tail _ ?_)) (oneW W) (by omega) (by omega)) ?_
  rintro _ _ ⟨o2, c2, t2, rfl, own2, rfl⟩
  rw [Nat.zero_add, List.nil_append] at own2 ⊢
  refine WL_val rfl rfl rfl (R_build rfl zv46 pl46 rfl rfl) ?_
  refine WL_do0 rfl rfl (D_store (vs := [_]) rfl Try.sizeOf46 rfl rfl rfl rfl rfl (by repeat (first | exact Pull.head | apply Pull.tail)) (by exact Nat.le_of_ble_eq_true rfl)) ?_
  rintro _ _ rfl
  refine WL_nil ?_
  refine WQ_code ?_
  refine WC_ret ?_
  refine WQ_ret rfl rfl (.cons (.cell (vs := [_]) rfl ag46 (by repeat (first | exact List.Mem.head _ | refine List.Mem.tail _ ?_)) rfl (by repeat (first | exact At.nil | refine At.cons ?_ | refine At.succ ?_))) .nil) rfl (by
      exact ⟨o2, c2, t2, rfl, own2, rfl⟩) (by repeat (first | exact Pulls.nil | exact Pulls.all | (apply Pulls.cons; (repeat (first | exact Pull.head | apply Pull.tail))) | apply Pulls.skip))
theorem rpush_full (W : List WE) (o : Option Nat) (c : Nat) (t : List Value) (ho : Own o W.length c 3 (W.flatMap encW) t) (hl : W.length ≤ 100000) (h : 1024 ≤ W.length) (k : Nat) (v : Int) : Spec Try.prog 33 [.agg #[slV o W.length c], .int .u64 (k : Int), .int .i64 v] [⟨o, cl (W.flatMap encW ++ t) 80⟩] (fun r H' => ∃ V', r = .tuple #[V', .int .i64 0, .int .i64 7] ∧ RIs W V' H') := by
  refine Spec.of (E := [(0, .agg #[slV o W.length c]), (1, .int .u64 (k : Int)), (2, .int .i64 v)]) Try.func33 rfl (by kernel_rfl) Try.ntmps33 rfl rfl (fun w => ?_)
  refine WC_seq ?_
  refine WC_region ?_
  refine WL_do rfl rfl rfl (D_box (cs := [_]) rfl rfl rfl) ?_
  rintro _ _ ⟨b1, rfl, rfl⟩
  refine WL_do rfl rfl rfl (D_alloc rfl zv46) ?_
  rintro _ _ ⟨b2, rfl, rfl⟩
  refine WL_val rfl rfl rfl (R_assign rfl rfl) ?_
  refine WL_val rfl rfl rfl (R_assign rfl rfl) ?_
  refine WL_nil ?_
  refine WQ_code ?_
  refine WC_seq ?_
  refine WC_seq ?_
  refine WC_region ?_
  refine WL_val rfl rfl rfl (R_fieldAddr rfl fa46_0 rfl) ?_
  refine WL_val rfl rfl rfl (R_load rfl sc44 rfl (by repeat (first | exact List.Mem.head _ | refine List.Mem.tail _ ?_)) rfl) ?_
  refine WL_val rfl rfl rfl (R_len rfl Try.underlying44 rfl) ?_
  refine WL_val rfl rfl rfl (R_geq rfl rfl rfl) ?_
  refine WL_nil ?_
  refine WQ_code ?_
  refine WC_dT rfl (by omega) ?_
  refine WC_seq ?_
  refine WC_region ?_
  refine WL_val rfl rfl rfl (R_loadA (vs := [_]) rfl ag46 rfl (by repeat (first | exact List.Mem.head _ | refine List.Mem.tail _ ?_)) rfl (by repeat (first | exact At.nil | refine At.cons ?_ | refine At.succ ?_))) ?_
  refine WL_do0 rfl rfl (D_store (vs := [_]) rfl Try.sizeOf46 rfl rfl rfl rfl rfl (by repeat (first | exact Pull.head | apply Pull.tail)) (by exact Nat.le_of_ble_eq_true rfl)) ?_
  rintro _ _ rfl
  refine WL_val rfl rfl rfl (R_assign rfl rfl) ?_
  refine WL_val rfl rfl rfl (R_assign rfl rfl) ?_
  refine WL_nil ?_
  refine WQ_code ?_
  refine WC_ret ?_
  refine WQ_ret rfl rfl (.cons (.cell (vs := [_]) rfl ag46 (by repeat (first | exact List.Mem.head _ | refine List.Mem.tail _ ?_)) rfl (by repeat (first | exact At.nil | refine At.cons ?_ | refine At.succ ?_))) (.cons (.tmp rfl) (.cons (.tmp rfl) .nil))) rfl (by
      exact ⟨_, rfl, o, c, t, rfl, ho, rfl⟩) (by repeat (first | exact Pulls.nil | exact Pulls.all | (apply Pulls.cons; (repeat (first | exact Pull.head | apply Pull.tail))) | apply Pulls.skip))
theorem rpush_ok (W : List WE) (o : Option Nat) (c : Nat) (t : List Value) (ho : Own o W.length c 3 (W.flatMap encW) t) (hl : W.length ≤ 100000) (hd : (hds W).Nodup) (h : W.length < 1024) (f : Nat) (hf : IsFree W f) (hfl : f ≤ 1024) (k : Nat) (v : Int) (q : Nat) : Spec Try.prog 33 [.agg #[slV o W.length c], .int .u64 (k : Int), .int .i64 v] [⟨o, cl (W.flatMap encW ++ t) 80⟩] (fun r H' => ∃ V', r = .tuple #[V', .int .i64 (f : Int), .int .i64 0] ∧ RIs (W ++ [⟨f, v, k, q⟩]) V' H') := by
  refine Spec.of (E := [(0, .agg #[slV o W.length c]), (1, .int .u64 (k : Int)), (2, .int .i64 v)]) Try.func33 rfl (by kernel_rfl) Try.ntmps33 rfl rfl (fun w => ?_)
  refine WC_seq ?_
  refine WC_region ?_
  refine WL_do rfl rfl rfl (D_box (cs := [_]) rfl rfl rfl) ?_
  rintro _ _ ⟨b1, rfl, rfl⟩
  refine WL_do rfl rfl rfl (D_alloc rfl zv46) ?_
  rintro _ _ ⟨b2, rfl, rfl⟩
  refine WL_val rfl rfl rfl (R_assign rfl rfl) ?_
  refine WL_val rfl rfl rfl (R_assign rfl rfl) ?_
  refine WL_nil ?_
  refine WQ_code ?_
  refine WC_seq ?_
  refine WC_seq ?_
  refine WC_region ?_
  refine WL_val rfl rfl rfl (R_fieldAddr rfl fa46_0 rfl) ?_
  refine WL_val rfl rfl rfl (R_load rfl sc44 rfl (by repeat (first | exact List.Mem.head _ | refine List.Mem.tail _ ?_)) rfl) ?_
  refine WL_val rfl rfl rfl (R_len rfl Try.underlying44 rfl) ?_
  refine WL_val rfl rfl rfl (R_geq rfl rfl rfl) ?_
  refine WL_nil ?_
  refine WQ_code ?_
  refine WC_dF rfl (by omega) ?_
  refine WC_skip ?_
  refine WQ_code ?_
  refine WC_seq ?_
  refine WC_region ?_
  refine WL_val rfl rfl rfl (R_assign rfl rfl) ?_
  refine WL_nil ?_
  refine WQ_code ?_
  refine WC_seq ?_
  refine WC_block ?_
  refine WC_loopF (G := Nat) [9, 16, 17, 18, 19, 20, 21] (fun j => j ≤ f) (fun j => [(9, .int .i64 (j : Int))]) (fun j => []) (fun j => f - j) (0) (Nat.zero_le _) (Le.lq (by repeat (first | exact Le.nil | refine Le.cons rfl (by first | rfl | (congr 1; omega)) ?_))) (by repeat (first | exact Pulls.nil | exact Pulls.all | (apply Pulls.cons; (repeat (first | exact Pull.head | apply Pull.tail))) | apply Pulls.skip)) ?_
  rintro j hj
  refine WC_seq ?_
  refine WC_seq ?_
  refine WC_region ?_
  refine WL_val rfl rfl rfl (R_loadA (vs := [_]) rfl ag46 rfl (by repeat (first | exact List.Mem.head _ | refine List.Mem.tail _ ?_)) rfl (by repeat (first | exact At.nil | refine At.cons ?_ | refine At.succ ?_))) ?_
  refine WL_val rfl rfl rfl (R_move rfl rfl) ?_
  refine WL_do rfl rfl rfl (D_call (rat_any W o c t ho hl hd (j : Int)) rfl rfl rfl rfl (by repeat (first | exact Pulls.nil | exact Pulls.all | (apply Pulls.cons; (repeat (first | exact Pull.head | apply Pull.tail))) | apply Pulls.skip))) ?_
  rintro _ _ ⟨_, ⟨a, rfl, ha, rfl⟩, rfl⟩
  refine WL_val rfl rfl rfl (R_geq rfl rfl rfl) ?_
  refine WL_nil ?_
  refine WQ_code ?_
  refine WC_dec rfl (fun c1 => ?_) (fun c1 => ?_)
  · have hne : j ≠ f := by rintro rfl; rcases ha with ⟨rfl, _⟩ | ⟨q9, w9, rfl, hq9, e9⟩; (omega); (exact hf.out w9 (List.mem_of_getElem? hq9) (by omega))
    refine WC_skip ?_
    refine WQ_code ?_
    refine WC_block ?_
    refine WC_region ?_
    refine WL_val rfl rfl rfl (R_move rfl rfl) ?_
    refine WL_val rfl rfl rfl (R_add rfl rfl rfl (by omega)) ?_
    refine WL_val rfl rfl rfl (R_assign rfl rfl) ?_
    refine WL_nil ?_
    refine WQ_nextF (j + 1) (by omega) (by omega) (Le.lq (by repeat (first | exact Le.nil | refine Le.cons rfl (by first | rfl | (congr 1; omega)) ?_))) (by repeat (first | exact Pushed.refl | refine Pushed.push rfl ?_)) rfl (by repeat (first | exact Pulls.nil | exact Pulls.all | (apply Pulls.cons; (repeat (first | exact Pull.head | apply Pull.tail))) | apply Pulls.skip))
  · obtain rfl : j = f := by rcases Nat.lt_or_ge j f with h9 | h9; (obtain ⟨w9, m9, e9⟩ := hf.below j h9; rcases ha with ⟨_, h8⟩ | ⟨q9, w8, rfl, _, _⟩; (exact absurd (by rw [e9]) (h8 w9 m9)); omega); omega
    refine WC_exit ?_
    refine WQ_code ?_
    refine WC_seq ?_
    refine WC_region ?_
    refine WL_val rfl rfl rfl (R_loadA (vs := [_]) rfl ag46 rfl (by repeat (first | exact List.Mem.head _ | refine List.Mem.tail _ ?_)) rfl (by repeat (first | exact At.nil | refine At.cons ?_ | refine At.succ ?_))) ?_
    refine WL_do rfl rfl rfl (D_call (rcopy_ok W o c t ho hl) rfl rfl rfl rfl (by repeat (first | exact Pulls.nil | exact Pulls.all | (apply Pulls.cons; (repeat (first | exact Pull.head | apply Pull.tail))) | apply Pulls.skip))) ?_
    rintro _ _ ⟨_, ⟨o2, c2, t2, rfl, own2, rfl⟩, rfl⟩
    refine WL_do rfl rfl rfl (D_alloc rfl zv46) ?_
    rintro _ _ ⟨b3, rfl, rfl⟩
    refine WL_do0 rfl rfl (D_store (vs := [_]) rfl Try.sizeOf46 rfl rfl rfl rfl rfl (by repeat (first | exact Pull.head | apply Pull.tail)) (by exact Nat.le_of_ble_eq_true rfl)) ?_
    rintro _ _ rfl
    refine WL_nil ?_
    refine WQ_code ?_
    refine WC_seq ?_
    refine WC_region ?_
    refine WL_val rfl rfl rfl (R_fieldAddr rfl fa46_0 rfl) ?_
    refine WL_val rfl rfl rfl (R_load rfl sc44 rfl (by repeat (first | exact List.Mem.head _ | refine List.Mem.tail _ ?_)) rfl) ?_
    refine WL_val rfl rfl rfl (R_move rfl rfl) ?_
    refine WL_val rfl rfl rfl (R_move rfl rfl) ?_
    refine WL_val rfl rfl rfl (R_move rfl rfl) ?_
    refine WL_val rfl rfl rfl (R_build rfl zv80 pl80 rfl rfl) ?_
    refine WL_do rfl rfl rfl (D_buildSlice rfl si44 rfl rfl rfl) ?_
    rintro _ _ ⟨b4, rfl, rfl⟩
    refine WL_do rfl rfl rfl (D_append rfl si44 rfl (own2) (by repeat (first | exact Pull.head | apply Pull.tail)) rfl (by repeat (first | exact List.Mem.head _ | refine List.Mem.tail _ ?_)) ((by repeat (first | exact At.nil | refine At.cons ?_ | refine At.succ ?_) : At _ 0 [_, _, _])) (rfl) (rfl) (by omega) (by omega)) ?_
    rintro _ _ ⟨ob5, cap5, tl5, rfl, own5, rfl⟩
    rw [show W.flatMap encW ++ [Value.int .i64 (j : Int), Value.int .i64 v, Value.int .u64 (k : Int)] = (W ++ [(⟨j, v, k, q⟩ : WE)]).flatMap encW from by rw [List.flatMap_append]; rfl, show W.length + 1 = (W ++ [(⟨j, v, k, q⟩ : WE)]).length from by simp] at *
    refine WL_val rfl rfl rfl (R_fieldAddr rfl fa46_0 rfl) ?_
    refine WL_do0 rfl rfl (D_store (vs := [_]) rfl Try.sizeOf44 rfl rfl rfl rfl rfl (by repeat (first | exact Pull.head | apply Pull.tail)) (by exact Nat.le_of_ble_eq_true rfl)) ?_
    rintro _ _ rfl
    refine WL_nil ?_
    refine WQ_code ?_
    refine WC_seq ?_
    refine WC_region ?_
    refine WL_val rfl rfl rfl (R_loadA (vs := [_]) rfl ag46 rfl (by repeat (first | exact List.Mem.head _ | refine List.Mem.tail _ ?_)) rfl (by repeat (first | exact At.nil | refine At.cons ?_ | refine At.succ ?_))) ?_
    refine WL_val rfl rfl rfl (R_move rfl rfl) ?_
    refine WL_do0 rfl rfl (D_store (vs := [_]) rfl Try.sizeOf46 rfl rfl rfl rfl rfl (by repeat (first | exact Pull.head | apply Pull.tail)) (by exact Nat.le_of_ble_eq_true rfl)) ?_
    rintro _ _ rfl
    refine WL_val rfl rfl rfl (R_assign rfl rfl) ?_
    refine WL_val rfl rfl rfl (R_assign rfl rfl) ?_
    refine WL_nil ?_
    refine WQ_code ?_
    refine WC_ret ?_
    refine WQ_ret rfl rfl (.cons (.cell (vs := [_]) rfl ag46 (by repeat (first | exact List.Mem.head _ | refine List.Mem.tail _ ?_)) rfl (by repeat (first | exact At.nil | refine At.cons ?_ | refine At.succ ?_))) (.cons (.tmp rfl) (.cons (.tmp rfl) .nil))) rfl (by
        exact ⟨_, rfl, ob5, cap5, tl5, rfl, own5, rfl⟩) (by repeat (first | exact Pulls.nil | exact Pulls.all | (apply Pulls.cons; (repeat (first | exact Pull.head | apply Pull.tail))) | apply Pulls.skip))
theorem rchg_no (W : List WE) (o : Option Nat) (c : Nat) (t : List Value) (ho : Own o W.length c 3 (W.flatMap encW) t) (hl : W.length ≤ 100000) (i : Int) (hn : ∀ w ∈ W, (w.h : Int) ≠ i) (k : Nat) : Spec Try.prog 34 [.agg #[slV o W.length c], .int .i64 i, .int .u64 (k : Int)] [⟨o, cl (W.flatMap encW ++ t) 80⟩] (fun r H' => ∃ V', r = .tuple #[V', .int .i64 9] ∧ RIs W V' H') := by
  refine Spec.of (E := [(0, .agg #[slV o W.length c]), (1, .int .i64 i), (2, .int .u64 (k : Int))]) Try.func34 rfl (by kernel_rfl) Try.ntmps34 rfl rfl (fun w => ?_)
  refine WC_seq ?_
  refine WC_region ?_
  refine WL_do rfl rfl rfl (D_box (cs := [_]) rfl rfl rfl) ?_
  rintro _ _ ⟨b1, rfl, rfl⟩
  refine WL_do rfl rfl rfl (D_alloc rfl zv46) ?_
  rintro _ _ ⟨b2, rfl, rfl⟩
  refine WL_val rfl rfl rfl (R_assign rfl rfl) ?_
  refine WL_nil ?_
  refine WQ_code ?_
  refine WC_seq ?_
  refine WC_region ?_
  refine WL_val rfl rfl rfl (R_loadA (vs := [_]) rfl ag46 rfl (by repeat (first | exact List.Mem.head _ | refine List.Mem.tail _ ?_)) rfl (by repeat (first | exact At.nil | refine At.cons ?_ | refine At.succ ?_))) ?_
  refine WL_val rfl rfl rfl (R_move rfl rfl) ?_
  refine WL_do rfl rfl rfl (D_call (rat_none W o c t ho hl i hn) rfl rfl rfl rfl (by repeat (first | exact Pulls.nil | exact Pulls.all | (apply Pulls.cons; (repeat (first | exact Pull.head | apply Pull.tail))) | apply Pulls.skip))) ?_
  rintro _ _ ⟨_, ⟨rfl, rfl⟩, rfl⟩
  refine WL_val rfl rfl rfl (R_assign rfl rfl) ?_
  refine WL_nil ?_
  refine WQ_code ?_
  refine WC_seq ?_
  refine WC_seq ?_
  refine WC_region ?_
  refine WL_val rfl rfl rfl (R_move rfl rfl) ?_
  refine WL_val rfl rfl rfl (R_lss rfl rfl rfl) ?_
  refine WL_nil ?_
  refine WQ_code ?_
  refine WC_dT rfl (by omega) ?_
  refine WC_seq ?_
  refine WC_region ?_
  refine WL_val rfl rfl rfl (R_loadA (vs := [_]) rfl ag46 rfl (by repeat (first | exact List.Mem.head _ | refine List.Mem.tail _ ?_)) rfl (by repeat (first | exact At.nil | refine At.cons ?_ | refine At.succ ?_))) ?_
  refine WL_do0 rfl rfl (D_store (vs := [_]) rfl Try.sizeOf46 rfl rfl rfl rfl rfl (by repeat (first | exact Pull.head | apply Pull.tail)) (by exact Nat.le_of_ble_eq_true rfl)) ?_
  rintro _ _ rfl
  refine WL_val rfl rfl rfl (R_assign rfl rfl) ?_
  refine WL_nil ?_
  refine WQ_code ?_
  refine WC_ret ?_
  refine WQ_ret rfl rfl (.cons (.cell (vs := [_]) rfl ag46 (by repeat (first | exact List.Mem.head _ | refine List.Mem.tail _ ?_)) rfl (by repeat (first | exact At.nil | refine At.cons ?_ | refine At.succ ?_))) (.cons (.tmp rfl) .nil)) rfl (by
      exact ⟨_, rfl, o, c, t, rfl, ho, rfl⟩) (by repeat (first | exact Pulls.nil | exact Pulls.all | (apply Pulls.cons; (repeat (first | exact Pull.head | apply Pull.tail))) | apply Pulls.skip))
theorem rchg_ok (W : List WE) (o : Option Nat) (c : Nat) (t : List Value) (ho : Own o W.length c 3 (W.flatMap encW) t) (hl : W.length ≤ 100000) (hd : (hds W).Nodup) (i : Nat) (u : WE) (hi : W[i]? = some u) (k : Nat) : Spec Try.prog 34 [.agg #[slV o W.length c], .int .i64 (u.h : Int), .int .u64 (k : Int)] [⟨o, cl (W.flatMap encW ++ t) 80⟩] (fun r H' => ∃ V', r = .tuple #[V', .int .i64 0] ∧ RIs (wchange W u.h k) V' H') := by
  have hil := (List.getElem?_eq_some_iff.1 hi).1
  rw [wchange_set hd hi k]
  refine Spec.of (E := [(0, .agg #[slV o W.length c]), (1, .int .i64 (u.h : Int)), (2, .int .u64 (k : Int))]) Try.func34 rfl (by kernel_rfl) Try.ntmps34 rfl rfl (fun w => ?_)
  refine WC_seq ?_
  refine WC_region ?_
  refine WL_do rfl rfl rfl (D_box (cs := [_]) rfl rfl rfl) ?_
  rintro _ _ ⟨b1, rfl, rfl⟩
  refine WL_do rfl rfl rfl (D_alloc rfl zv46) ?_
  rintro _ _ ⟨b2, rfl, rfl⟩
  refine WL_val rfl rfl rfl (R_assign rfl rfl) ?_
  refine WL_nil ?_
  refine WQ_code ?_
  refine WC_seq ?_
  refine WC_region ?_
  refine WL_val rfl rfl rfl (R_loadA (vs := [_]) rfl ag46 rfl (by repeat (first | exact List.Mem.head _ | refine List.Mem.tail _ ?_)) rfl (by repeat (first | exact At.nil | refine At.cons ?_ | refine At.succ ?_))) ?_
  refine WL_val rfl rfl rfl (R_move rfl rfl) ?_
  refine WL_do rfl rfl rfl (D_call (rat_some W o c t ho hl hd i u hi) rfl rfl rfl rfl (by repeat (first | exact Pulls.nil | exact Pulls.all | (apply Pulls.cons; (repeat (first | exact Pull.head | apply Pull.tail))) | apply Pulls.skip))) ?_
  rintro _ _ ⟨_, ⟨rfl, rfl⟩, rfl⟩
  refine WL_val rfl rfl rfl (R_assign rfl rfl) ?_
  refine WL_nil ?_
  refine WQ_code ?_
  refine WC_seq ?_
  refine WC_seq ?_
  refine WC_region ?_
  refine WL_val rfl rfl rfl (R_move rfl rfl) ?_
  refine WL_val rfl rfl rfl (R_lss rfl rfl rfl) ?_
  refine WL_nil ?_
  refine WQ_code ?_
  refine WC_dF rfl (by omega) ?_
  refine WC_skip ?_
  refine WQ_code ?_
  refine WC_seq ?_
  refine WC_region ?_
  refine WL_val rfl rfl rfl (R_loadA (vs := [_]) rfl ag46 rfl (by repeat (first | exact List.Mem.head _ | refine List.Mem.tail _ ?_)) rfl (by repeat (first | exact At.nil | refine At.cons ?_ | refine At.succ ?_))) ?_
  refine WL_do rfl rfl rfl (D_call (rcopy_ok W o c t ho hl) rfl rfl rfl rfl (by repeat (first | exact Pulls.nil | exact Pulls.all | (apply Pulls.cons; (repeat (first | exact Pull.head | apply Pull.tail))) | apply Pulls.skip))) ?_
  rintro _ _ ⟨_, ⟨o2, c2, t2, rfl, own2, rfl⟩, rfl⟩
  refine WL_do rfl rfl rfl (D_alloc rfl zv46) ?_
  rintro _ _ ⟨b3, rfl, rfl⟩
  refine WL_do0 rfl rfl (D_store (vs := [_]) rfl Try.sizeOf46 rfl rfl rfl rfl rfl (by repeat (first | exact Pull.head | apply Pull.tail)) (by exact Nat.le_of_ble_eq_true rfl)) ?_
  rintro _ _ rfl
  refine WL_nil ?_
  refine WQ_code ?_
  refine WC_seq ?_
  refine WC_region ?_
  refine WL_val rfl rfl rfl (R_fieldAddr rfl fa46_0 rfl) ?_
  obtain ⟨b9, rfl⟩ := own2.some_of (by omega)
  refine WL_val rfl rfl rfl (R_load rfl sc44 rfl (by repeat (first | exact List.Mem.head _ | refine List.Mem.tail _ ?_)) rfl) ?_
  refine WL_val rfl rfl rfl (R_move rfl rfl) ?_
  refine WL_val rfl rfl rfl (R_move rfl rfl) ?_
  refine WL_val rfl rfl rfl (R_indexAddrN rfl Try.underlying44 Try.sizeOf80 rfl rfl (by omega)) ?_
  refine WL_val rfl rfl rfl (R_fieldAddr rfl fa80_2 rfl) ?_
  refine WL_do0 rfl rfl (D_store (vs := [_]) rfl Try.sizeOf29 rfl rfl rfl rfl rfl (by repeat (first | exact Pull.head | apply Pull.tail)) (by exact fm_room0 encW3 hil (j := 2) (by omega))) ?_
  rintro _ _ rfl
  have hput := fm_put0 encW3 ({ u with k := k } : WE) hi (j := 2) (vs := [.int .u64 (k : Int)]) (by simp) rfl (tl := t2)
  rw [hput, show W.length = (W.set i { u with k := k }).length from List.length_set.symm] at *
  refine WL_nil ?_
  refine WQ_code ?_
  refine WC_seq ?_
  refine WC_region ?_
  refine WL_val rfl rfl rfl (R_loadA (vs := [_]) rfl ag46 rfl (by repeat (first | exact List.Mem.head _ | refine List.Mem.tail _ ?_)) rfl (by repeat (first | exact At.nil | refine At.cons ?_ | refine At.succ ?_))) ?_
  refine WL_do0 rfl rfl (D_store (vs := [_]) rfl Try.sizeOf46 rfl rfl rfl rfl rfl (by repeat (first | exact Pull.head | apply Pull.tail)) (by exact Nat.le_of_ble_eq_true rfl)) ?_
  rintro _ _ rfl
  refine WL_val rfl rfl rfl (R_assign rfl rfl) ?_
  refine WL_nil ?_
  refine WQ_code ?_
  refine WC_ret ?_
  refine WQ_ret rfl rfl (.cons (.cell (vs := [_]) rfl ag46 (by repeat (first | exact List.Mem.head _ | refine List.Mem.tail _ ?_)) rfl (by repeat (first | exact At.nil | refine At.cons ?_ | refine At.succ ?_))) (.cons (.tmp rfl) .nil)) rfl (by
      exact ⟨_, rfl, _, c2, t2, rfl, own2.like (by simp only [fm_length encW3, List.length_set]), rfl⟩) (by repeat (first | exact Pulls.nil | exact Pulls.all | (apply Pulls.cons; (repeat (first | exact Pull.head | apply Pull.tail))) | apply Pulls.skip))
theorem rrem_no (W : List WE) (o : Option Nat) (c : Nat) (t : List Value) (ho : Own o W.length c 3 (W.flatMap encW) t) (hl : W.length ≤ 100000) (i : Int) (hn : ∀ w ∈ W, (w.h : Int) ≠ i) : Spec Try.prog 35 [.agg #[slV o W.length c], .int .i64 i] [⟨o, cl (W.flatMap encW ++ t) 80⟩] (fun r H' => ∃ V', r = .tuple #[V', .int .i64 9] ∧ RIs W V' H') := by
  refine Spec.of (E := [(0, .agg #[slV o W.length c]), (1, .int .i64 i)]) Try.func35 rfl (by kernel_rfl) Try.ntmps35 rfl rfl (fun w => ?_)
  refine WC_seq ?_
  refine WC_region ?_
  refine WL_do rfl rfl rfl (D_box (cs := [_]) rfl rfl rfl) ?_
  rintro _ _ ⟨b1, rfl, rfl⟩
  refine WL_do rfl rfl rfl (D_alloc rfl zv46) ?_
  rintro _ _ ⟨b2, rfl, rfl⟩
  refine WL_val rfl rfl rfl (R_assign rfl rfl) ?_
  refine WL_nil ?_
  refine WQ_code ?_
  refine WC_seq ?_
  refine WC_region ?_
  refine WL_val rfl rfl rfl (R_loadA (vs := [_]) rfl ag46 rfl (by repeat (first | exact List.Mem.head _ | refine List.Mem.tail _ ?_)) rfl (by repeat (first | exact At.nil | refine At.cons ?_ | refine At.succ ?_))) ?_
  refine WL_val rfl rfl rfl (R_move rfl rfl) ?_
  refine WL_do rfl rfl rfl (D_call (rat_none W o c t ho hl i hn) rfl rfl rfl rfl (by repeat (first | exact Pulls.nil | exact Pulls.all | (apply Pulls.cons; (repeat (first | exact Pull.head | apply Pull.tail))) | apply Pulls.skip))) ?_
  rintro _ _ ⟨_, ⟨rfl, rfl⟩, rfl⟩
  refine WL_val rfl rfl rfl (R_assign rfl rfl) ?_
  refine WL_nil ?_
  refine WQ_code ?_
  refine WC_seq ?_
  refine WC_seq ?_
  refine WC_region ?_
  refine WL_val rfl rfl rfl (R_move rfl rfl) ?_
  refine WL_val rfl rfl rfl (R_lss rfl rfl rfl) ?_
  refine WL_nil ?_
  refine WQ_code ?_
  refine WC_dT rfl (by omega) ?_
  refine WC_seq ?_
  refine WC_region ?_
  refine WL_val rfl rfl rfl (R_loadA (vs := [_]) rfl ag46 rfl (by repeat (first | exact List.Mem.head _ | refine List.Mem.tail _ ?_)) rfl (by repeat (first | exact At.nil | refine At.cons ?_ | refine At.succ ?_))) ?_
  refine WL_do0 rfl rfl (D_store (vs := [_]) rfl Try.sizeOf46 rfl rfl rfl rfl rfl (by repeat (first | exact Pull.head | apply Pull.tail)) (by exact Nat.le_of_ble_eq_true rfl)) ?_
  rintro _ _ rfl
  refine WL_val rfl rfl rfl (R_assign rfl rfl) ?_
  refine WL_nil ?_
  refine WQ_code ?_
  refine WC_ret ?_
  refine WQ_ret rfl rfl (.cons (.cell (vs := [_]) rfl ag46 (by repeat (first | exact List.Mem.head _ | refine List.Mem.tail _ ?_)) rfl (by repeat (first | exact At.nil | refine At.cons ?_ | refine At.succ ?_))) (.cons (.tmp rfl) .nil)) rfl (by
      exact ⟨_, rfl, o, c, t, rfl, ho, rfl⟩) (by repeat (first | exact Pulls.nil | exact Pulls.all | (apply Pulls.cons; (repeat (first | exact Pull.head | apply Pull.tail))) | apply Pulls.skip))
theorem rrem_ok (W : List WE) (o : Option Nat) (c : Nat) (t : List Value) (ho : Own o W.length c 3 (W.flatMap encW) t) (hl : W.length ≤ 100000) (hd : (hds W).Nodup) (i : Nat) (u : WE) (hi : W[i]? = some u) : Spec Try.prog 35 [.agg #[slV o W.length c], .int .i64 (u.h : Int)] [⟨o, cl (W.flatMap encW ++ t) 80⟩] (fun r H' => ∃ V', r = .tuple #[V', .int .i64 0] ∧ RIs (wremove W u.h) V' H') := by
  have hil := (List.getElem?_eq_some_iff.1 hi).1
  rw [wremove_cut hd hi]
  have hcl := cut_len2 hil
  refine Spec.of (E := [(0, .agg #[slV o W.length c]), (1, .int .i64 (u.h : Int))]) Try.func35 rfl (by kernel_rfl) Try.ntmps35 rfl rfl (fun w => ?_)
  refine WC_seq ?_
  refine WC_region ?_
  refine WL_do rfl rfl rfl (D_box (cs := [_]) rfl rfl rfl) ?_
  rintro _ _ ⟨b1, rfl, rfl⟩
  refine WL_do rfl rfl rfl (D_alloc rfl zv46) ?_
  rintro _ _ ⟨b2, rfl, rfl⟩
  refine WL_val rfl rfl rfl (R_assign rfl rfl) ?_
  refine WL_nil ?_
  refine WQ_code ?_
  refine WC_seq ?_
  refine WC_region ?_
  refine WL_val rfl rfl rfl (R_loadA (vs := [_]) rfl ag46 rfl (by repeat (first | exact List.Mem.head _ | refine List.Mem.tail _ ?_)) rfl (by repeat (first | exact At.nil | refine At.cons ?_ | refine At.succ ?_))) ?_
  refine WL_val rfl rfl rfl (R_move rfl rfl) ?_
  refine WL_do rfl rfl rfl (D_call (rat_some W o c t ho hl hd i u hi) rfl rfl rfl rfl (by repeat (first | exact Pulls.nil | exact Pulls.all | (apply Pulls.cons; (repeat (first | exact Pull.head | apply Pull.tail))) | apply Pulls.skip))) ?_
  rintro _ _ ⟨_, ⟨rfl, rfl⟩, rfl⟩
  refine WL_val rfl rfl rfl (R_assign rfl rfl) ?_
  refine WL_nil ?_
  refine WQ_code ?_
  refine WC_seq ?_
  refine WC_seq ?_
  refine WC_region ?_
  refine WL_val rfl rfl rfl (R_move rfl rfl) ?_
  refine WL_val rfl rfl rfl (R_lss rfl rfl rfl) ?_
  refine WL_nil ?_
  refine WQ_code ?_
  refine WC_dF rfl (by omega) ?_
  refine WC_skip ?_
  refine WQ_code ?_
  refine WC_seq ?_
  refine WC_region ?_
  refine WL_val rfl rfl rfl (R_loadA (vs := [_]) rfl ag46 rfl (by repeat (first | exact List.Mem.head _ | refine List.Mem.tail _ ?_)) rfl (by repeat (first | exact At.nil | refine At.cons ?_ | refine At.succ ?_))) ?_
  refine WL_do rfl rfl rfl (D_call (rcopy_ok W o c t ho hl) rfl rfl rfl rfl (by repeat (first | exact Pulls.nil | exact Pulls.all | (apply Pulls.cons; (repeat (first | exact Pull.head | apply Pull.tail))) | apply Pulls.skip))) ?_
  rintro _ _ ⟨_, ⟨o2, c2, t2, rfl, own2, rfl⟩, rfl⟩
  obtain ⟨b9, rfl⟩ := own2.some_of (by omega)
  rw [cut_cells W i t2]
  refine WL_do rfl rfl rfl (D_alloc rfl zv46) ?_
  rintro _ _ ⟨b3, rfl, rfl⟩
  refine WL_do0 rfl rfl (D_store (vs := [_]) rfl Try.sizeOf46 rfl rfl rfl rfl rfl (by repeat (first | exact Pull.head | apply Pull.tail)) (by exact Nat.le_of_ble_eq_true rfl)) ?_
  rintro _ _ rfl
  refine WL_nil ?_
  refine WQ_code ?_
  refine WC_seq ?_
  refine WC_drawE [⟨some b9, _⟩, ⟨some b3, _⟩] [(0, false), (1, true), (2, false), (3, false), (4, false), (5, true)] [(6, true), (7, true), (8, true), (9, false), (10, true), (11, false)] followsMixed rfl rfl (by kernel_rfl) (by repeat (first | exact Pulls.nil | exact Pulls.all | (apply Pulls.cons; (repeat (first | exact Pull.head | apply Pull.tail))) | apply Pulls.skip)) ?_
  refine WZ_val rfl rfl rfl rfl (R_fieldAddr rfl fa46_0 rfl) ?_
  refine WZ_early rfl rfl rfl rfl (R_load rfl sc44 rfl (by repeat (first | exact List.Mem.head _ | refine List.Mem.tail _ ?_)) rfl) ?_
  refine WZ_val rfl rfl rfl rfl (R_move rfl rfl) ?_
  refine WZ_val rfl rfl rfl rfl (R_sliceTo (m := i) rfl Try.underlying44 Try.sizeOf80 rfl rfl (by have := own2.le; omega)) ?_
  refine WZ_val rfl rfl rfl rfl (R_fieldAddr rfl fa46_0 rfl) ?_
  refine WZ_early rfl rfl rfl rfl (R_load rfl sc44 rfl (by repeat (first | exact List.Mem.head _ | refine List.Mem.tail _ ?_)) rfl) ?_
  refine WZ_rest ?_
  refine WM_val rfl rfl rfl rfl (R_move rfl rfl) ?_
  refine WM_val rfl rfl rfl rfl (R_addR (r := ((i + 1 : Nat) : Int)) rfl rfl rfl (by rw [IntWalk.i64_in _ (by omega)]; omega)) ?_
  refine WM_val rfl rfl rfl rfl (R_sliceFromK (m := i + 1) rfl Try.underlying44 Try.sizeOf80 rfl rfl (by omega)) ?_
  refine WM_do rfl rfl rfl rfl (D_append rfl si44 rfl (cut_own (i := i) own2 (by omega)) (by repeat (first | exact Pull.head | apply Pull.tail)) rfl (by repeat (first | exact List.Mem.head _ | refine List.Mem.tail _ ?_)) (cut_at W (by omega) own2.le) (cut_len W i) (oneW _) (by omega) (by omega)) ?_
  rintro _ _ ⟨o3, c3, t3, rfl, own3, rfl⟩
  refine ⟨⟨_, by repeat (first | exact Pulls.nil | exact Pulls.all | (apply Pulls.cons; (repeat (first | exact Pull.head | apply Pull.tail))) | apply Pulls.skip)⟩, ?_⟩
  rw [← List.flatMap_append, show i + (W.length - (i + 1)) = (W.take i ++ W.drop (i + 1)).length from by omega] at *
  refine WM_val rfl rfl rfl rfl (R_fieldAddr rfl fa46_0 rfl) ?_
  refine WM_do0 rfl rfl rfl (D_store (vs := [_]) rfl Try.sizeOf44 rfl rfl rfl rfl rfl (by repeat (first | exact Pull.head | apply Pull.tail)) (by exact Nat.le_of_ble_eq_true rfl)) ?_
  rintro _ _ rfl
  refine ⟨⟨_, by repeat (first | exact Pulls.nil | exact Pulls.all | (apply Pulls.cons; (repeat (first | exact Pull.head | apply Pull.tail))) | apply Pulls.skip)⟩, ?_⟩
  refine WM_nil ?_
  refine WQ_code ?_
  refine WC_seq ?_
  refine WC_region ?_
  refine WL_val rfl rfl rfl (R_loadA (vs := [_]) rfl ag46 rfl (by repeat (first | exact List.Mem.head _ | refine List.Mem.tail _ ?_)) rfl (by repeat (first | exact At.nil | refine At.cons ?_ | refine At.succ ?_))) ?_
  refine WL_do0 rfl rfl (D_store (vs := [_]) rfl Try.sizeOf46 rfl rfl rfl rfl rfl (by repeat (first | exact Pull.head | apply Pull.tail)) (by exact Nat.le_of_ble_eq_true rfl)) ?_
  rintro _ _ rfl
  refine WL_val rfl rfl rfl (R_assign rfl rfl) ?_
  refine WL_nil ?_
  refine WQ_code ?_
  refine WC_ret ?_
  refine WQ_ret rfl rfl (.cons (.cell (vs := [_]) rfl ag46 (by repeat (first | exact List.Mem.head _ | refine List.Mem.tail _ ?_)) rfl (by repeat (first | exact At.nil | refine At.cons ?_ | refine At.succ ?_))) (.cons (.tmp rfl) .nil)) rfl (by
      exact ⟨_, rfl, o3, c3, t3, rfl, own3, rfl⟩) (by repeat (first | exact Pulls.nil | exact Pulls.all | (apply Pulls.cons; (repeat (first | exact Pull.head | apply Pull.tail))) | apply Pulls.skip))
theorem rord_ok (W : List WE) (o : Option Nat) (c : Nat) (t : List Value) (ho : Own o W.length c 3 (W.flatMap encW) t) (hl : W.length ≤ 100000) (hinc : W.Pairwise (fun a b => a.s < b.s)) : Spec Try.prog 18 [.agg #[slV o W.length c]] [⟨o, cl (W.flatMap encW ++ t) 80⟩] (fun r H' => ∃ O o2 c2 t2, r = slV o2 (hds O).length c2 ∧ IsOrd W O ∧ Own o2 (hds O).length c2 1 (ivn (hds O)) t2 ∧ H' = [⟨o2, cl (ivn (hds O) ++ t2) 3⟩, ⟨o, cl (W.flatMap encW ++ t) 80⟩]) := by
  refine Spec.of (E := [(0, .agg #[slV o W.length c])]) Try.func18 rfl (by kernel_rfl) Try.ntmps18 rfl rfl (fun w => ?_)
  refine WC_seq ?_
  refine WC_region ?_
  refine WL_do rfl rfl rfl (D_box (cs := [_]) rfl rfl rfl) ?_
  rintro _ _ ⟨b1, rfl, rfl⟩
  refine WL_val rfl rfl rfl (R_assign rfl rfl) ?_
  refine WL_nil ?_
  refine WQ_code ?_
  refine WC_seq ?_
  refine WC_region ?_
  refine WL_val rfl rfl rfl (R_loadA (vs := [_]) rfl ag46 rfl (by repeat (first | exact List.Mem.head _ | refine List.Mem.tail _ ?_)) rfl (by repeat (first | exact At.nil | refine At.cons ?_ | refine At.succ ?_))) ?_
  refine WL_do rfl rfl rfl (D_call (rcopy_ok W o c t ho hl) rfl rfl rfl rfl (by repeat (first | exact Pulls.nil | exact Pulls.all | (apply Pulls.cons; (repeat (first | exact Pull.head | apply Pull.tail))) | apply Pulls.skip))) ?_
  rintro _ _ ⟨_, ⟨o2, c2, t2, rfl, own2, rfl⟩, rfl⟩
  refine WL_do rfl rfl rfl (D_alloc rfl zv46) ?_
  rintro _ _ ⟨b2, rfl, rfl⟩
  refine WL_do0 rfl rfl (D_store (vs := [_]) rfl Try.sizeOf46 rfl rfl rfl rfl rfl (by repeat (first | exact Pull.head | apply Pull.tail)) (by exact Nat.le_of_ble_eq_true rfl)) ?_
  rintro _ _ rfl
  refine WL_nil ?_
  refine WQ_code ?_
  refine WC_seq ?_
  refine WC_region ?_
  refine WL_val rfl rfl rfl (R_assign rfl rfl) ?_
  refine WL_nil ?_
  refine WQ_code ?_
  refine WC_seq ?_
  refine WC_block ?_
  refine WC_none 3 ?_
  refine WC_loopF (G := OW) [4, 5, 6, 9, 10, 11, 12, 13, 14, 15, 16, 17, 18, 19, 20, 21, 22, 23, 24, 25, 26, 27, 28, 29, 30, 31, 32, 33, 34, 35, 36, 37, 38, 39, 40, 41, 42, 43, 44, 45, 46, 47, 48, 49, 50, 51, 52, 53] (fun y => Sel W y.P y.X ∧ Own y.o y.X.length y.c 3 (y.X.flatMap encW) y.t ∧ Own y.ob (hds y.P).length y.cb 1 (ivn (hds y.P)) y.tb ∧ (hds y.P).length + y.X.length ≤ 100000) (fun y => [(4, slV y.ob (hds y.P).length y.cb)]) (fun y => ⟨some b2, cl [slV y.o y.X.length y.c] 46⟩ :: ⟨y.o, cl (y.X.flatMap encW ++ y.t) 80⟩ :: ⟨y.ob, cl (ivn (hds y.P) ++ y.tb) 3⟩ :: []) (fun y => y.X.length) (⟨[], W, o2, c2, t2, none, 0, []⟩) (⟨Sel.fst hinc, own2, Own.empty 1, by show 0 + W.length ≤ 100000; omega⟩) (Le.lq (by repeat (first | exact Le.nil | refine Le.cons rfl (by first | rfl | (congr 1; omega)) ?_))) (by repeat (first | exact Pulls.nil | exact Pulls.all | (apply Pulls.cons; (repeat (first | exact Pull.head | apply Pull.tail))) | apply Pulls.skip)) ?_
  rintro y ⟨hys, hyo, hyb, hyc⟩
  refine WC_seq ?_
  refine WC_seq ?_
  refine WC_region ?_
  refine WL_val rfl rfl rfl (R_fieldAddr rfl fa46_0 rfl) ?_
  refine WL_val rfl rfl rfl (R_load rfl sc44 rfl (by repeat (first | exact List.Mem.head _ | refine List.Mem.tail _ ?_)) rfl) ?_
  refine WL_val rfl rfl rfl (R_len rfl Try.underlying44 rfl) ?_
  refine WL_val rfl rfl rfl (R_gtr rfl rfl rfl) ?_
  refine WL_nil ?_
  refine WQ_code ?_
  refine WC_dec rfl (fun c1 => ?_) (fun c1 => ?_)
  · refine WC_skip ?_
    refine WQ_code ?_
    refine WC_block ?_
    refine WC_seq ?_
    refine WC_region ?_
    refine WL_val rfl rfl rfl (R_assign rfl rfl) ?_
    refine WL_nil ?_
    refine WQ_code ?_
    refine WC_seq ?_
    refine WC_seq ?_
    refine WC_region ?_
    refine WL_val rfl rfl rfl (R_assign rfl rfl) ?_
    refine WL_nil ?_
    refine WQ_code ?_
    refine WC_block ?_
    refine WC_loopF (G := BW2) [5, 6, 13, 14, 15, 16, 17, 18, 19, 20, 21, 22, 23, 24, 25, 26, 27, 28, 29, 30, 31, 32, 33] (fun z => z.j ≤ y.X.length ∧ IsBest y.X z.j z.m) (fun z => [(6, .int .i64 (z.j : Int)), (5, .int .i64 (z.m : Int))]) (fun z => []) (fun z => y.X.length - z.j) (⟨1, 0⟩) (⟨by dsimp only; omega, IsBest.one⟩) (Le.lq (by repeat (first | exact Le.nil | refine Le.cons rfl (by first | rfl | (congr 1; omega)) ?_))) (by repeat (first | exact Pulls.nil | exact Pulls.all | (apply Pulls.cons; (repeat (first | exact Pull.head | apply Pull.tail))) | apply Pulls.skip)) ?_
    rintro z ⟨hzj, hzb⟩
    refine WC_seq ?_
    refine WC_seq ?_
    refine WC_region ?_
    refine WL_val rfl rfl rfl (R_move rfl rfl) ?_
    refine WL_val rfl rfl rfl (R_fieldAddr rfl fa46_0 rfl) ?_
    refine WL_val rfl rfl rfl (R_load rfl sc44 rfl (by repeat (first | exact List.Mem.head _ | refine List.Mem.tail _ ?_)) rfl) ?_
    refine WL_val rfl rfl rfl (R_len rfl Try.underlying44 rfl) ?_
    refine WL_val rfl rfl rfl (R_lss rfl rfl rfl) ?_
    refine WL_nil ?_
    refine WQ_code ?_
    refine WC_dec rfl (fun c2 => ?_) (fun c2 => ?_)
    · refine WC_skip ?_
      refine WQ_code ?_
      refine WC_seq ?_
      refine WC_block ?_
      refine WC_seq ?_
      refine WC_draw _ [(0, true), (1, true), (2, true), (3, true), (4, true), (5, true), (6, true), (7, true), (8, true), (9, true), (10, true), (11, true), (12, true)] followsMixed rfl rfl (by kernel_rfl) .all ?_
      have hml := hzb.lt
      obtain ⟨x, hx⟩ := exE (T := y.X) (i := z.j) (by omega)
      obtain ⟨x2, hx2⟩ := exE (T := y.X) (i := z.m) (by omega)
      obtain ⟨b0, hb0⟩ := hyo.some_of (by omega)
      rw [hb0]
      refine WM_val rfl rfl rfl rfl (R_fieldAddr rfl fa46_0 rfl) ?_
      refine WM_val rfl rfl rfl rfl (R_load rfl sc44 rfl (by repeat (first | exact List.Mem.head _ | refine List.Mem.tail _ ?_)) rfl) ?_
      refine WM_val rfl rfl rfl rfl (R_move rfl rfl) ?_
      refine WM_val rfl rfl rfl rfl (R_indexAddrN rfl Try.underlying44 Try.sizeOf80 rfl rfl (by omega)) ?_
      refine WM_val rfl rfl rfl rfl (R_fieldAddr rfl fa80_2 rfl) ?_
      refine WM_val rfl rfl rfl rfl (R_load (v := .int .u64 (x.k : Int)) rfl sc29 rfl (by repeat (first | exact List.Mem.head _ | refine List.Mem.tail _ ?_)) (fm_get0 encW3 hx (j := 2) (by omega))) ?_
      refine WM_val rfl rfl rfl rfl (R_fieldAddr rfl fa46_0 rfl) ?_
      refine WM_val rfl rfl rfl rfl (R_load rfl sc44 rfl (by repeat (first | exact List.Mem.head _ | refine List.Mem.tail _ ?_)) rfl) ?_
      refine WM_val rfl rfl rfl rfl (R_move rfl rfl) ?_
      refine WM_val rfl rfl rfl rfl (R_indexAddrN rfl Try.underlying44 Try.sizeOf80 rfl rfl (by omega)) ?_
      refine WM_val rfl rfl rfl rfl (R_fieldAddr rfl fa80_2 rfl) ?_
      refine WM_val rfl rfl rfl rfl (R_load (v := .int .u64 (x2.k : Int)) rfl sc29 rfl (by repeat (first | exact List.Mem.head _ | refine List.Mem.tail _ ?_)) (fm_get0 encW3 hx2 (j := 2) (by omega))) ?_
      refine WM_val rfl rfl rfl rfl (R_lss rfl rfl rfl) ?_
      refine WM_nil ?_
      refine WQ_code ?_
      refine WC_dec rfl (fun c3 => ?_) (fun c3 => ?_)
      · have hk : x.k < x2.k := by omega
        refine WC_region ?_
        refine WL_val rfl rfl rfl (R_move rfl rfl) ?_
        refine WL_val rfl rfl rfl (R_assign rfl rfl) ?_
        refine WL_nil ?_
        refine WQ_code ?_
        refine WC_region ?_
        refine WL_val rfl rfl rfl (R_move rfl rfl) ?_
        refine WL_val rfl rfl rfl (R_add rfl rfl rfl (by omega)) ?_
        refine WL_val rfl rfl rfl (R_assign rfl rfl) ?_
        refine WL_nil ?_
        refine WQ_nextF (⟨z.j + 1, z.j⟩) (⟨by dsimp only; omega, hzb.new hx hx2 hk⟩) (by dsimp only; omega) (Le.lq (by repeat (first | exact Le.nil | refine Le.cons rfl (by first | rfl | (congr 1; omega)) ?_))) (by repeat (first | exact Pushed.refl | refine Pushed.push rfl ?_)) rfl (by repeat (first | exact Pulls.nil | exact Pulls.all | (apply Pulls.cons; (repeat (first | exact Pull.head | apply Pull.tail))) | apply Pulls.skip))
      · have hk : ¬ x.k < x2.k := by omega
        refine WC_skip ?_
        refine WQ_code ?_
        refine WC_region ?_
        refine WL_val rfl rfl rfl (R_move rfl rfl) ?_
        refine WL_val rfl rfl rfl (R_add rfl rfl rfl (by omega)) ?_
        refine WL_val rfl rfl rfl (R_assign rfl rfl) ?_
        refine WL_nil ?_
        refine WQ_nextF (⟨z.j + 1, z.m⟩) (⟨by dsimp only; omega, hzb.old hx hx2 hk⟩) (by dsimp only; omega) (Le.lq (by repeat (first | exact Le.nil | refine Le.cons rfl (by first | rfl | (congr 1; omega)) ?_))) (by repeat (first | exact Pushed.refl | refine Pushed.push rfl ?_)) rfl (by repeat (first | exact Pulls.nil | exact Pulls.all | (apply Pulls.cons; (repeat (first | exact Pull.head | apply Pull.tail))) | apply Pulls.skip))
    · refine WC_exit ?_
      refine WQ_code ?_
      refine WC_seq ?_
      refine WC_region ?_
      have hml9 := hzb.lt
      have hml : z.m < y.X.length := by omega
      have ej : z.j = y.X.length := by omega
      obtain ⟨x9, hx9⟩ := exE (T := y.X) (i := z.m) hml
      obtain ⟨b9, hb9⟩ := hyo.some_of (by omega)
      rw [hb9]
      refine WL_val rfl rfl rfl (R_move rfl rfl) ?_
      refine WL_val rfl rfl rfl (R_fieldAddr rfl fa46_0 rfl) ?_
      refine WL_val rfl rfl rfl (R_load rfl sc44 rfl (by repeat (first | exact List.Mem.head _ | refine List.Mem.tail _ ?_)) rfl) ?_
      refine WL_val rfl rfl rfl (R_move rfl rfl) ?_
      refine WL_val rfl rfl rfl (R_indexAddrN rfl Try.underlying44 Try.sizeOf80 rfl rfl (by omega)) ?_
      refine WL_val rfl rfl rfl (R_fieldAddr rfl fa80_0 rfl) ?_
      refine WL_val rfl rfl rfl (R_load (v := .int .i64 (x9.h : Int)) rfl sc3 rfl (by repeat (first | exact List.Mem.head _ | refine List.Mem.tail _ ?_)) (fm_get0 encW3 hx9 (j := 0) (by omega))) ?_
      refine WL_do rfl rfl rfl (D_buildSlice rfl si39 rfl rfl rfl) ?_
      rintro _ _ ⟨b3, rfl, rfl⟩
      refine WL_do rfl rfl rfl (D_append rfl si39 rfl (hyb) (by repeat (first | exact Pull.head | apply Pull.tail)) rfl (by repeat (first | exact List.Mem.head _ | refine List.Mem.tail _ ?_)) ((by repeat (first | exact At.nil | refine At.cons ?_ | refine At.succ ?_) : At _ 0 [_])) (rfl) (rfl) (by omega) (by omega)) ?_
      rintro _ _ ⟨ob4, cap4, tl4, rfl, own4, rfl⟩
      rw [show ivn (hds y.P) ++ [Value.int .i64 ((x9.h : Nat) : Int)] = ivn (hds (y.P ++ [x9])) from by rw [hds_snoc, ivn_snoc], show (hds y.P).length + 1 = (hds (y.P ++ [x9])).length from by simp, cut_cells y.X z.m y.t] at *
      refine WL_val rfl rfl rfl (R_assign rfl rfl) ?_
      refine WL_nil ?_
      refine WQ_code ?_
      refine WC_drawE [⟨some b9, _⟩, ⟨some b2, _⟩] [(0, false), (1, true), (2, false), (3, false), (4, false), (5, true)] [(6, true), (7, true), (8, true), (9, false), (10, true), (11, false)] followsMixed rfl rfl (by kernel_rfl) (by repeat (first | exact Pulls.nil | exact Pulls.all | (apply Pulls.cons; (repeat (first | exact Pull.head | apply Pull.tail))) | apply Pulls.skip)) ?_
      refine WZ_val rfl rfl rfl rfl (R_fieldAddr rfl fa46_0 rfl) ?_
      refine WZ_early rfl rfl rfl rfl (R_load rfl sc44 rfl (by repeat (first | exact List.Mem.head _ | refine List.Mem.tail _ ?_)) rfl) ?_
      refine WZ_val rfl rfl rfl rfl (R_move rfl rfl) ?_
      refine WZ_val rfl rfl rfl rfl (R_sliceTo (m := z.m) rfl Try.underlying44 Try.sizeOf80 rfl rfl (by have := hyo.le; omega)) ?_
      refine WZ_val rfl rfl rfl rfl (R_fieldAddr rfl fa46_0 rfl) ?_
      refine WZ_early rfl rfl rfl rfl (R_load rfl sc44 rfl (by repeat (first | exact List.Mem.head _ | refine List.Mem.tail _ ?_)) rfl) ?_
      refine WZ_rest ?_
      refine WM_val rfl rfl rfl rfl (R_move rfl rfl) ?_
      refine WM_val rfl rfl rfl rfl (R_addR (r := ((z.m + 1 : Nat) : Int)) rfl rfl rfl (by rw [IntWalk.i64_in _ (by omega)]; omega)) ?_
      refine WM_val rfl rfl rfl rfl (R_sliceFromK (m := z.m + 1) rfl Try.underlying44 Try.sizeOf80 rfl rfl (by omega)) ?_
      refine WM_do rfl rfl rfl rfl (D_append rfl si44 rfl (cut_own (i := z.m) (hb9 ▸ hyo) (by omega)) (by repeat (first | exact Pull.head | apply Pull.tail)) rfl (by repeat (first | exact List.Mem.head _ | refine List.Mem.tail _ ?_)) (cut_at y.X (by omega) (hb9 ▸ hyo).le) (cut_len y.X z.m) (oneW _) (by omega) (by omega)) ?_
      rintro _ _ ⟨o3, c3, t3, rfl, own3, rfl⟩
      refine ⟨⟨_, by repeat (first | exact Pulls.nil | exact Pulls.all | (apply Pulls.cons; (repeat (first | exact Pull.head | apply Pull.tail))) | apply Pulls.skip)⟩, ?_⟩
      rw [← List.flatMap_append, show z.m + (y.X.length - (z.m + 1)) = (y.X.take z.m ++ y.X.drop (z.m + 1)).length from by rw [cut_len2 hml]; omega] at *
      refine WM_val rfl rfl rfl rfl (R_fieldAddr rfl fa46_0 rfl) ?_
      refine WM_do0 rfl rfl rfl (D_store (vs := [_]) rfl Try.sizeOf44 rfl rfl rfl rfl rfl (by repeat (first | exact Pull.head | apply Pull.tail)) (by exact Nat.le_of_ble_eq_true rfl)) ?_
      rintro _ _ rfl
      refine ⟨⟨_, by repeat (first | exact Pulls.nil | exact Pulls.all | (apply Pulls.cons; (repeat (first | exact Pull.head | apply Pull.tail))) | apply Pulls.skip)⟩, ?_⟩
      refine WM_nil ?_
      refine WQ_nextF (⟨y.P ++ [x9], y.X.take z.m ++ y.X.drop (z.m + 1), o3, c3, t3, ob4, cap4, tl4⟩) (⟨hys.next (ej ▸ hzb) hx9, own3, own4, by dsimp only; rw [cut_len2 hml, hds_snoc, List.length_append, List.length_singleton]; omega⟩) (by dsimp only; rw [cut_len2 hml]; omega) (Le.lq (by repeat (first | exact Le.nil | refine Le.cons rfl (by first | rfl | (congr 1; omega)) ?_))) (by repeat (first | exact Pushed.refl | refine Pushed.push rfl ?_)) rfl (by repeat (first | exact Pulls.nil | exact Pulls.all | (apply Pulls.cons; (repeat (first | exact Pull.head | apply Pull.tail))) | apply Pulls.skip))
  · have hx0 : y.X = [] := List.eq_nil_of_length_eq_zero (by omega)
    refine WC_exit ?_
    refine WQ_code ?_
    refine WC_seq ?_
    refine WC_region ?_
    refine WL_val rfl rfl rfl (R_move rfl rfl) ?_
    refine WL_val rfl rfl rfl (R_assign rfl rfl) ?_
    refine WL_nil ?_
    refine WQ_code ?_
    refine WC_ret ?_
    refine WQ_ret rfl rfl (.cons (.tmp rfl) .nil) rfl (by
        exact ⟨y.P, y.ob, y.cb, y.tb, rfl, (hx0 ▸ hys).done, hyb, rfl⟩) (by repeat (first | exact Pulls.nil | exact Pulls.all | (apply Pulls.cons; (repeat (first | exact Pull.head | apply Pull.tail))) | apply Pulls.skip))
theorem rtop_nil (o : Option Nat) (c : Nat) (t : List Value) : Spec Try.prog 36 [.agg #[slV o 0 c]] [⟨o, cl ([] ++ t) 80⟩] (fun r H' => r = .tuple #[.int .i64 0, .int .i64 9] ∧ H' = [⟨o, cl ([] ++ t) 80⟩]) := by
  refine Spec.of (E := [(0, .agg #[slV o 0 c])]) Try.func36 rfl (by kernel_rfl) Try.ntmps36 rfl rfl (fun w => ?_)
  refine WC_seq ?_
  refine WC_region ?_
  refine WL_do rfl rfl rfl (D_box (cs := [_]) rfl rfl rfl) ?_
  rintro _ _ ⟨b1, rfl, rfl⟩
  refine WL_val rfl rfl rfl (R_assign rfl rfl) ?_
  refine WL_val rfl rfl rfl (R_assign rfl rfl) ?_
  refine WL_nil ?_
  refine WQ_code ?_
  refine WC_seq ?_
  refine WC_seq ?_
  refine WC_region ?_
  refine WL_val rfl rfl rfl (R_fieldAddr rfl fa46_0 rfl) ?_
  refine WL_val rfl rfl rfl (R_load rfl sc44 rfl (by repeat (first | exact List.Mem.head _ | refine List.Mem.tail _ ?_)) rfl) ?_
  refine WL_val rfl rfl rfl (R_len rfl Try.underlying44 rfl) ?_
  refine WL_val rfl rfl rfl (R_eql rfl rfl rfl) ?_
  refine WL_nil ?_
  refine WQ_code ?_
  refine WC_dT rfl (by rfl) ?_
  refine WC_seq ?_
  refine WC_region ?_
  refine WL_val rfl rfl rfl (R_assign rfl rfl) ?_
  refine WL_val rfl rfl rfl (R_assign rfl rfl) ?_
  refine WL_nil ?_
  refine WQ_code ?_
  refine WC_ret ?_
  refine WQ_ret rfl rfl (.cons (.tmp rfl) (.cons (.tmp rfl) .nil)) rfl (by
      exact ⟨rfl, rfl⟩) (by repeat (first | exact Pulls.nil | exact Pulls.all | (apply Pulls.cons; (repeat (first | exact Pull.head | apply Pull.tail))) | apply Pulls.skip))
theorem rtop_w (W : List WE) (o : Option Nat) (c : Nat) (t : List Value) (ho : Own o W.length c 3 (W.flatMap encW) t) (hl : W.length ≤ 100000) (hinc : W.Pairwise (fun a b => a.s < b.s)) (u : WE) (hw : IsMin W u) : Spec Try.prog 36 [.agg #[slV o W.length c]] [⟨o, cl (W.flatMap encW ++ t) 80⟩] (fun r H' => r = .tuple #[.int .i64 (u.h : Int), .int .i64 0] ∧ H' = [⟨o, cl (W.flatMap encW ++ t) 80⟩]) := by
  have hpos := List.length_pos_iff.2 (List.ne_nil_of_mem hw.mem)
  refine Spec.of (E := [(0, .agg #[slV o W.length c])]) Try.func36 rfl (by kernel_rfl) Try.ntmps36 rfl rfl (fun w => ?_)
  refine WC_seq ?_
  refine WC_region ?_
  refine WL_do rfl rfl rfl (D_box (cs := [_]) rfl rfl rfl) ?_
  rintro _ _ ⟨b1, rfl, rfl⟩
  refine WL_val rfl rfl rfl (R_assign rfl rfl) ?_
  refine WL_val rfl rfl rfl (R_assign rfl rfl) ?_
  refine WL_nil ?_
  refine WQ_code ?_
  refine WC_seq ?_
  refine WC_seq ?_
  refine WC_region ?_
  refine WL_val rfl rfl rfl (R_fieldAddr rfl fa46_0 rfl) ?_
  refine WL_val rfl rfl rfl (R_load rfl sc44 rfl (by repeat (first | exact List.Mem.head _ | refine List.Mem.tail _ ?_)) rfl) ?_
  refine WL_val rfl rfl rfl (R_len rfl Try.underlying44 rfl) ?_
  refine WL_val rfl rfl rfl (R_eql rfl rfl rfl) ?_
  refine WL_nil ?_
  refine WQ_code ?_
  refine WC_dF rfl (by omega) ?_
  refine WC_skip ?_
  refine WQ_code ?_
  refine WC_seq ?_
  refine WC_region ?_
  refine WL_val rfl rfl rfl (R_loadA (vs := [_]) rfl ag46 rfl (by repeat (first | exact List.Mem.head _ | refine List.Mem.tail _ ?_)) rfl (by repeat (first | exact At.nil | refine At.cons ?_ | refine At.succ ?_))) ?_
  refine WL_do rfl rfl rfl (D_call (rord_ok W o c t ho hl hinc) rfl rfl rfl rfl (by repeat (first | exact Pulls.nil | exact Pulls.all | (apply Pulls.cons; (repeat (first | exact Pull.head | apply Pull.tail))) | apply Pulls.skip))) ?_
  rintro _ _ ⟨_, ⟨O, o2, c2, t2, rfl, hO, own2, rfl⟩, rfl⟩
  have hO0 : (hds O)[0]? = some u.h := by rw [List.getElem?_map, hO.head hw]; rfl
  obtain ⟨b2, rfl⟩ := own2.some_of (List.getElem?_eq_some_iff.1 hO0).1
  refine WL_val rfl rfl rfl (R_indexAddrN rfl Try.underlying39 Try.sizeOf3 rfl rfl (by have := (List.getElem?_eq_some_iff.1 hO0).1; omega)) ?_
  refine WL_val rfl rfl rfl (R_load (v := .int .i64 ((u.h : Nat) : Int)) rfl sc3 rfl (by repeat (first | exact List.Mem.head _ | refine List.Mem.tail _ ?_)) (fm_get0 encN1 hO0 (j := 0) (by omega))) ?_
  refine WL_val rfl rfl rfl (R_assign rfl rfl) ?_
  refine WL_val rfl rfl rfl (R_assign rfl rfl) ?_
  refine WL_nil ?_
  refine WQ_code ?_
  refine WC_ret ?_
  refine WQ_ret rfl rfl (.cons (.tmp rfl) (.cons (.tmp rfl) .nil)) rfl (by
      exact ⟨rfl, rfl⟩) (by repeat (first | exact Pulls.nil | exact Pulls.all | (apply Pulls.cons; (repeat (first | exact Pull.head | apply Pull.tail))) | apply Pulls.skip))

end Go.Proofs.Ytliffiahoolemaa
