/-
  Chapter 03 (timer), part RefB: contracts of functions that the laws call, each for the heap it names.
-/
import Derived.Test.YtbaagjiailmlhaaRows
import Derived.Test.YtbaagjiailmlhaaSLPhase
import Derived.Test.YtbaagjiailmlhaaSLInt
import Derived.Test.YtbaagjiailmlhaaTab
import Derived.Test.YtbaagjiailmlhaaRefA
set_option linter.unusedVariables false
set_option maxRecDepth 20000
set_option maxHeartbeats 4000000
namespace Go.Proofs.Ytbaagjiailmlhaa


/-- A reference with these timers, and what holds it. -/
abbrev RIs (L : List Tm) (V : Value) (H' : Heap) : Prop := ∃ o c t, V = .agg #[slV o L.length c] ∧ Own o L.length c 5 (L.flatMap encR) t ∧ H' = [⟨o, cl (L.flatMap encR ++ t) 58⟩]
def SetC (L : List Tm) (q k : Nat) (own : Int) (a b : Nat) (e : Int) (L' : List Tm) : Prop :=
  (k = 18446744073709551615 ∧ a = 0 ∧ b = 0 ∧ e = 2 ∧ L' = L) ∨ (k < 18446744073709551615 ∧ 1024 ≤ (live L).length ∧ a = 0 ∧ b = 0 ∧ e = 7 ∧ L' = L) ∨ (k < 18446744073709551615 ∧ (live L).length < 1024 ∧ e = 0 ∧ IsFree (wl L) a ∧ b = cnt L a ∧ L' = L ++ [⟨a, b, own, k, false, q⟩])
theorem mset_c (L : List Tm) (m : TmM) (ht : TIs L m) (hb : m.g.n + 1 < 9000000000000000000) (k : Nat) (hk : k ≤ 18446744073709551615) (own : Int) : Spec Try.prog 10 [ptrH m.pt, .int .u64 (k : Int), .int .i64 own] (tmH m)
    (fun r H' => ∃ (m' : TmM) (L' : List Tm) (a b : Nat) (e : Int), r = .tuple #[.agg #[.int .i64 (a : Int), .int .i64 (b : Int)], .int .i64 e] ∧ H' = tmH m' ∧ m'.pt = m.pt ∧ m'.g.n ≤ m.g.n + 1 ∧ TIs L' m' ∧ SetC L (m.g.n + 1) k own a b e L') := by
  by_cases h1 : k = 18446744073709551615
  · subst h1
    exact (mset_arg L m ht own).mono fun r H' ⟨e1, e2⟩ => ⟨m, L, 0, 0, 2, e1, e2, rfl, by omega, ht, .inl ⟨rfl, rfl, rfl, rfl, rfl⟩⟩
  · by_cases h2 : 1024 ≤ (live L).length
    · exact (mset_full L m ht h2 k (by omega) own).mono fun r H' ⟨e1, e2⟩ => ⟨m, L, 0, 0, 7, e1, e2, rfl, by omega, ht, .inr (.inl ⟨by omega, h2, rfl, rfl, rfl, rfl⟩)⟩
    · obtain ⟨f, hf⟩ := ht.h.free
      exact (mset_ok L m ht (by omega) hb f hf k (by omega) own).mono fun r H' ⟨m', e1, e2, e3, e4, e5⟩ => ⟨m', _, f, cnt L f, 0, e1, e2, e3, by omega, e5, .inr (.inr ⟨by omega, by omega, rfl, hf, rfl, rfl⟩)⟩
theorem rset_arg (L : List Tm) (or_ : Option Nat) (cr : Nat) (tr : List Value) (ho : Own or_ L.length cr 5 (L.flatMap encR) tr) (hl : L.length ≤ 100000) (own : Int) : Spec Try.prog 37 [.agg #[slV or_ L.length cr], .int .u64 18446744073709551615, .int .i64 own] [⟨or_, cl (L.flatMap encR ++ tr) 58⟩] (fun r H' => ∃ V', r = .tuple #[V', .agg #[.int .i64 0, .int .i64 0], .int .i64 2] ∧ RIs L V' H') := by
  refine Spec.of (E := [(0, .agg #[slV or_ L.length cr]), (1, .int .u64 18446744073709551615), (2, .int .i64 own)]) Try.func37 rfl (by kernel_rfl) Try.ntmps37 rfl rfl (fun w => ?_)
  refine WC_seq ?_
  refine WC_region ?_
  refine WL_do rfl rfl rfl (D_box (cs := [_]) rfl rfl rfl) ?_
  rintro _ _ ⟨b1, rfl, rfl⟩
  refine WL_do rfl rfl rfl (D_alloc rfl zv53) ?_
  rintro _ _ ⟨b2, rfl, rfl⟩
  refine WL_do rfl rfl rfl (D_alloc rfl zv26) ?_
  rintro _ _ ⟨b3, rfl, rfl⟩
  refine WL_val rfl rfl rfl (R_assign rfl rfl) ?_
  refine WL_nil ?_
  refine WQ_code ?_
  refine WC_seq ?_
  refine WC_seq ?_
  refine WC_region ?_
  refine WL_val rfl rfl rfl (R_move rfl rfl) ?_
  refine WL_val rfl rfl rfl (R_eql rfl rfl rfl) ?_
  refine WL_nil ?_
  refine WQ_code ?_
  refine WC_dT rfl (by rfl) ?_
  refine WC_seq ?_
  refine WC_region ?_
  refine WL_val rfl rfl rfl (R_loadA (vs := [_]) rfl ag53 rfl (by repeat (first | exact List.Mem.head _ | refine List.Mem.tail _ ?_)) rfl (by repeat (first | exact At.nil | refine At.cons ?_ | refine At.succ ?_))) ?_
  refine WL_val rfl rfl rfl (R_build rfl zv26 pl26 rfl rfl) ?_
  refine WL_do0 rfl rfl (D_store (vs := [_]) rfl Try.sizeOf53 rfl rfl rfl rfl rfl (by repeat (first | exact Pull.head | apply Pull.tail)) (by exact Nat.le_of_ble_eq_true rfl)) ?_
  rintro _ _ rfl
  refine WL_do0 rfl rfl (D_store (vs := [_, _]) rfl Try.sizeOf26 rfl rfl rfl rfl rfl (by repeat (first | exact Pull.head | apply Pull.tail)) (by exact Nat.le_of_ble_eq_true rfl)) ?_
  rintro _ _ rfl
  refine WL_val rfl rfl rfl (R_assign rfl rfl) ?_
  refine WL_nil ?_
  refine WQ_code ?_
  refine WC_ret ?_
  refine WQ_ret rfl rfl (.cons (.cell (vs := [_]) rfl ag53 (by repeat (first | exact List.Mem.head _ | refine List.Mem.tail _ ?_)) rfl (by repeat (first | exact At.nil | refine At.cons ?_ | refine At.succ ?_))) (.cons (.cell (vs := [_, _]) rfl ag26 (by repeat (first | exact List.Mem.head _ | refine List.Mem.tail _ ?_)) rfl (by repeat (first | exact At.nil | refine At.cons ?_ | refine At.succ ?_))) (.cons (.tmp rfl) .nil))) rfl (by
      exact ⟨_, rfl, or_, cr, tr, rfl, ho, rfl⟩) (by repeat (first | exact Pulls.nil | exact Pulls.all | (apply Pulls.cons; (repeat (first | exact Pull.head | apply Pull.tail))) | apply Pulls.skip))
theorem rset_full (L : List Tm) (or_ : Option Nat) (cr : Nat) (tr : List Value) (ho : Own or_ L.length cr 5 (L.flatMap encR) tr) (hl : L.length ≤ 100000) (k : Nat) (hk : k < 18446744073709551615) (hf : 1024 ≤ (live L).length) (own : Int) : Spec Try.prog 37 [.agg #[slV or_ L.length cr], .int .u64 (k : Int), .int .i64 own] [⟨or_, cl (L.flatMap encR ++ tr) 58⟩] (fun r H' => ∃ V', r = .tuple #[V', .agg #[.int .i64 0, .int .i64 0], .int .i64 7] ∧ RIs L V' H') := by
  refine Spec.of (E := [(0, .agg #[slV or_ L.length cr]), (1, .int .u64 (k : Int)), (2, .int .i64 own)]) Try.func37 rfl (by kernel_rfl) Try.ntmps37 rfl rfl (fun w => ?_)
  refine WC_seq ?_
  refine WC_region ?_
  refine WL_do rfl rfl rfl (D_box (cs := [_]) rfl rfl rfl) ?_
  rintro _ _ ⟨b1, rfl, rfl⟩
  refine WL_do rfl rfl rfl (D_alloc rfl zv53) ?_
  rintro _ _ ⟨b2, rfl, rfl⟩
  refine WL_do rfl rfl rfl (D_alloc rfl zv26) ?_
  rintro _ _ ⟨b3, rfl, rfl⟩
  refine WL_val rfl rfl rfl (R_assign rfl rfl) ?_
  refine WL_nil ?_
  refine WQ_code ?_
  refine WC_seq ?_
  refine WC_seq ?_
  refine WC_region ?_
  refine WL_val rfl rfl rfl (R_move rfl rfl) ?_
  refine WL_val rfl rfl rfl (R_eql rfl rfl rfl) ?_
  refine WL_nil ?_
  refine WQ_code ?_
  refine WC_dF rfl (by omega) ?_
  refine WC_skip ?_
  refine WQ_code ?_
  refine WC_seq ?_
  refine WC_seq ?_
  refine WC_region ?_
  refine WL_val rfl rfl rfl (R_loadA (vs := [_]) rfl ag53 rfl (by repeat (first | exact List.Mem.head _ | refine List.Mem.tail _ ?_)) rfl (by repeat (first | exact At.nil | refine At.cons ?_ | refine At.succ ?_))) ?_
  refine WL_do rfl rfl rfl (D_call (rlen_ok L or_ cr tr ho hl) rfl rfl rfl rfl (by repeat (first | exact Pulls.nil | exact Pulls.all | (apply Pulls.cons; (repeat (first | exact Pull.head | apply Pull.tail))) | apply Pulls.skip))) ?_
  rintro _ _ ⟨_, ⟨rfl, rfl⟩, rfl⟩
  refine WL_val rfl rfl rfl (R_geq rfl rfl rfl) ?_
  refine WL_nil ?_
  refine WQ_code ?_
  refine WC_dT rfl (by omega) ?_
  refine WC_seq ?_
  refine WC_region ?_
  refine WL_val rfl rfl rfl (R_loadA (vs := [_]) rfl ag53 rfl (by repeat (first | exact List.Mem.head _ | refine List.Mem.tail _ ?_)) rfl (by repeat (first | exact At.nil | refine At.cons ?_ | refine At.succ ?_))) ?_
  refine WL_val rfl rfl rfl (R_build rfl zv26 pl26 rfl rfl) ?_
  refine WL_do0 rfl rfl (D_store (vs := [_]) rfl Try.sizeOf53 rfl rfl rfl rfl rfl (by repeat (first | exact Pull.head | apply Pull.tail)) (by exact Nat.le_of_ble_eq_true rfl)) ?_
  rintro _ _ rfl
  refine WL_do0 rfl rfl (D_store (vs := [_, _]) rfl Try.sizeOf26 rfl rfl rfl rfl rfl (by repeat (first | exact Pull.head | apply Pull.tail)) (by exact Nat.le_of_ble_eq_true rfl)) ?_
  rintro _ _ rfl
  refine WL_val rfl rfl rfl (R_assign rfl rfl) ?_
  refine WL_nil ?_
  refine WQ_code ?_
  refine WC_ret ?_
  refine WQ_ret rfl rfl (.cons (.cell (vs := [_]) rfl ag53 (by repeat (first | exact List.Mem.head _ | refine List.Mem.tail _ ?_)) rfl (by repeat (first | exact At.nil | refine At.cons ?_ | refine At.succ ?_))) (.cons (.cell (vs := [_, _]) rfl ag26 (by repeat (first | exact List.Mem.head _ | refine List.Mem.tail _ ?_)) rfl (by repeat (first | exact At.nil | refine At.cons ?_ | refine At.succ ?_))) (.cons (.tmp rfl) .nil))) rfl (by
      exact ⟨_, rfl, or_, cr, tr, rfl, ho, rfl⟩) (by repeat (first | exact Pulls.nil | exact Pulls.all | (apply Pulls.cons; (repeat (first | exact Pull.head | apply Pull.tail))) | apply Pulls.skip))
theorem rset_ok (L : List Tm) (or_ : Option Nat) (cr : Nat) (tr : List Value) (ho : Own or_ L.length cr 5 (L.flatMap encR) tr) (hl : L.length ≤ 100000) (k : Nat) (hk : k < 18446744073709551615) (hr : (live L).length < 1024) (f : Nat) (hf : IsFree (wl L) f) (own : Int) (q : Nat) : Spec Try.prog 37 [.agg #[slV or_ L.length cr], .int .u64 (k : Int), .int .i64 own] [⟨or_, cl (L.flatMap encR ++ tr) 58⟩]
    (fun r H' => ∃ V', r = .tuple #[V', .agg #[.int .i64 (f : Int), .int .i64 (cnt L f : Int)], .int .i64 0] ∧ RIs (L ++ [⟨f, cnt L f, own, k, false, q⟩]) V' H') := by
  have hfl := hf.le
  have hll : (wl L).length = (live L).length := List.length_map ..
  refine Spec.of (E := [(0, .agg #[slV or_ L.length cr]), (1, .int .u64 (k : Int)), (2, .int .i64 own)]) Try.func37 rfl (by kernel_rfl) Try.ntmps37 rfl rfl (fun w => ?_)
  refine WC_seq ?_
  refine WC_region ?_
  refine WL_do rfl rfl rfl (D_box (cs := [_]) rfl rfl rfl) ?_
  rintro _ _ ⟨b1, rfl, rfl⟩
  refine WL_do rfl rfl rfl (D_alloc rfl zv53) ?_
  rintro _ _ ⟨b2, rfl, rfl⟩
  refine WL_do rfl rfl rfl (D_alloc rfl zv26) ?_
  rintro _ _ ⟨b3, rfl, rfl⟩
  refine WL_val rfl rfl rfl (R_assign rfl rfl) ?_
  refine WL_nil ?_
  refine WQ_code ?_
  refine WC_seq ?_
  refine WC_seq ?_
  refine WC_region ?_
  refine WL_val rfl rfl rfl (R_move rfl rfl) ?_
  refine WL_val rfl rfl rfl (R_eql rfl rfl rfl) ?_
  refine WL_nil ?_
  refine WQ_code ?_
  refine WC_dF rfl (by omega) ?_
  refine WC_skip ?_
  refine WQ_code ?_
  refine WC_seq ?_
  refine WC_seq ?_
  refine WC_region ?_
  refine WL_val rfl rfl rfl (R_loadA (vs := [_]) rfl ag53 rfl (by repeat (first | exact List.Mem.head _ | refine List.Mem.tail _ ?_)) rfl (by repeat (first | exact At.nil | refine At.cons ?_ | refine At.succ ?_))) ?_
  refine WL_do rfl rfl rfl (D_call (rlen_ok L or_ cr tr ho hl) rfl rfl rfl rfl (by repeat (first | exact Pulls.nil | exact Pulls.all | (apply Pulls.cons; (repeat (first | exact Pull.head | apply Pull.tail))) | apply Pulls.skip))) ?_
  rintro _ _ ⟨_, ⟨rfl, rfl⟩, rfl⟩
  refine WL_val rfl rfl rfl (R_geq rfl rfl rfl) ?_
  refine WL_nil ?_
  refine WQ_code ?_
  refine WC_dF rfl (by omega) ?_
  refine WC_skip ?_
  refine WQ_code ?_
  refine WC_seq ?_
  refine WC_region ?_
  refine WL_val rfl rfl rfl (R_assign rfl rfl) ?_
  refine WL_nil ?_
  refine WQ_code ?_
  refine WC_block ?_
  refine WC_loopF (G := Nat) [8, 9, 10, 11, 12, 13, 23, 24, 25, 26, 27, 28, 29, 30, 31, 32, 33, 34, 35, 36, 37, 38, 39, 40, 41, 42, 43, 44, 45, 46, 47, 48] (fun j => j ≤ f) (fun j => [(9, .int .i64 (j : Int))]) (fun j => []) (fun j => f - j) (0) (Nat.zero_le _) (Le.lq (by repeat (first | exact Le.nil | refine Le.cons rfl (by first | rfl | (congr 1; omega)) ?_))) (by repeat (first | exact Pulls.nil | exact Pulls.all | (apply Pulls.cons; (repeat (first | exact Pull.head | apply Pull.tail))) | apply Pulls.skip)) ?_
  rintro j hj
  refine WC_block ?_
  refine WC_seq ?_
  refine WC_region ?_
  refine WL_val rfl rfl rfl (R_loadA (vs := [_]) rfl ag53 rfl (by repeat (first | exact List.Mem.head _ | refine List.Mem.tail _ ?_)) rfl (by repeat (first | exact At.nil | refine At.cons ?_ | refine At.succ ?_))) ?_
  refine WL_val rfl rfl rfl (R_move rfl rfl) ?_
  refine WL_do rfl rfl rfl (D_call (rmany_ok L or_ cr tr ho hl j) rfl rfl rfl rfl (by repeat (first | exact Pulls.nil | exact Pulls.all | (apply Pulls.cons; (repeat (first | exact Pull.head | apply Pull.tail))) | apply Pulls.skip))) ?_
  rintro _ _ ⟨_, ⟨rfl, rfl⟩, rfl⟩
  refine WL_val rfl rfl rfl (R_move rfl rfl) ?_
  refine WL_val rfl rfl rfl (R_extract rfl rfl rfl) ?_
  refine WL_val rfl rfl rfl (R_extract rfl rfl rfl) ?_
  refine WL_val rfl rfl rfl (R_assign rfl rfl) ?_
  refine WL_val rfl rfl rfl (R_assign rfl rfl) ?_
  refine WL_nil ?_
  refine WQ_code ?_
  refine WC_seq ?_
  refine WC_seq ?_
  refine WC_region ?_
  refine WL_val rfl rfl rfl (R_move rfl rfl) ?_
  refine WL_val rfl rfl rfl (R_not rfl rfl) ?_
  refine WL_nil ?_
  refine WQ_code ?_
  refine WC_if rfl (fun c1 => ?_) (fun c1 => ?_)
  · have hno : isL L j = false := by simpa using c1
    obtain rfl : j = f := by rcases Nat.lt_or_ge j f with h9 | h9; (have := isL_iff.2 (hf.below j h9); rw [hno] at this; cases this); omega
    refine WC_seq ?_
    refine WC_region ?_
    refine WL_val rfl rfl rfl (R_loadA (vs := [_]) rfl ag53 rfl (by repeat (first | exact List.Mem.head _ | refine List.Mem.tail _ ?_)) rfl (by repeat (first | exact At.nil | refine At.cons ?_ | refine At.succ ?_))) ?_
    refine WL_do rfl rfl rfl (D_call (rcopy_ok L or_ cr tr ho hl) rfl rfl rfl rfl (by repeat (first | exact Pulls.nil | exact Pulls.all | (apply Pulls.cons; (repeat (first | exact Pull.head | apply Pull.tail))) | apply Pulls.skip))) ?_
    rintro _ _ ⟨_, ⟨o2, c2, t2, rfl, own2, rfl⟩, rfl⟩
    refine WL_do rfl rfl rfl (D_alloc rfl zv53) ?_
    rintro _ _ ⟨b4, rfl, rfl⟩
    refine WL_do0 rfl rfl (D_store (vs := [_]) rfl Try.sizeOf53 rfl rfl rfl rfl rfl (by repeat (first | exact Pull.head | apply Pull.tail)) (by exact Nat.le_of_ble_eq_true rfl)) ?_
    rintro _ _ rfl
    refine WL_nil ?_
    refine WQ_code ?_
    refine WC_seq ?_
    refine WC_region ?_
    refine WL_val rfl rfl rfl (R_move rfl rfl) ?_
    refine WL_val rfl rfl rfl (R_move rfl rfl) ?_
    refine WL_val rfl rfl rfl (R_build rfl zv26 pl26 rfl rfl) ?_
    refine WL_do rfl rfl rfl (D_alloc rfl zv26) ?_
    rintro _ _ ⟨b5, rfl, rfl⟩
    refine WL_do0 rfl rfl (D_store (vs := [_, _]) rfl Try.sizeOf26 rfl rfl rfl rfl rfl (by repeat (first | exact Pull.head | apply Pull.tail)) (by exact Nat.le_of_ble_eq_true rfl)) ?_
    rintro _ _ rfl
    refine WL_nil ?_
    refine WQ_code ?_
    refine WC_seq ?_
    refine WC_region ?_
    refine WL_val rfl rfl rfl (R_fieldAddr rfl fa53_0 rfl) ?_
    refine WL_val rfl rfl rfl (R_load rfl sc51 rfl (by repeat (first | exact List.Mem.head _ | refine List.Mem.tail _ ?_)) rfl) ?_
    refine WL_val rfl rfl rfl (R_loadA (vs := [_, _]) rfl ag26 rfl (by repeat (first | exact List.Mem.head _ | refine List.Mem.tail _ ?_)) rfl (by repeat (first | exact At.nil | refine At.cons ?_ | refine At.succ ?_))) ?_
    refine WL_val rfl rfl rfl (R_move rfl rfl) ?_
    refine WL_val rfl rfl rfl (R_move rfl rfl) ?_
    refine WL_val rfl rfl rfl (R_build rfl zv58 pl58 rfl rfl) ?_
    refine WL_do rfl rfl rfl (D_buildSlice rfl si51 rfl rfl rfl) ?_
    rintro _ _ ⟨b6, rfl, rfl⟩
    refine WL_do rfl rfl rfl (D_append rfl si51 rfl (own2) (by repeat (first | exact Pull.head | apply Pull.tail)) rfl (by repeat (first | exact List.Mem.head _ | refine List.Mem.tail _ ?_)) ((by repeat (first | exact At.nil | refine At.cons ?_ | refine At.succ ?_) : At _ 0 [_, _, _, _, _])) (rfl) (rfl) (by omega) (by omega)) ?_
    rintro _ _ ⟨ob7, cap7, tl7, rfl, own7, rfl⟩
    rw [show L.flatMap encR ++ [Value.int .i64 (j : Int), Value.int .i64 ((cnt L j : Nat) : Int), Value.int .i64 own, Value.int .u64 (k : Int), Value.bool false] = (L ++ [(⟨j, cnt L j, own, k, false, q⟩ : Tm)]).flatMap encR from by rw [List.flatMap_append]; rfl, show L.length + 1 = (L ++ [(⟨j, cnt L j, own, k, false, q⟩ : Tm)]).length from by simp] at *
    refine WL_val rfl rfl rfl (R_fieldAddr rfl fa53_0 rfl) ?_
    refine WL_do0 rfl rfl (D_store (vs := [_]) rfl Try.sizeOf51 rfl rfl rfl rfl rfl (by repeat (first | exact Pull.head | apply Pull.tail)) (by exact Nat.le_of_ble_eq_true rfl)) ?_
    rintro _ _ rfl
    refine WL_nil ?_
    refine WQ_code ?_
    refine WC_seq ?_
    refine WC_drawR [⟨some b2, _⟩, ⟨some b3, _⟩] [(0, true), (1, true), (2, false), (3, false), (4, true)] followsMixed rfl rfl (by kernel_rfl) (by repeat (first | exact Pulls.nil | exact Pulls.all | (apply Pulls.cons; (repeat (first | exact Pull.head | apply Pull.tail))) | apply Pulls.skip)) ?_
    refine WM_val rfl rfl rfl rfl (R_loadA (vs := [_]) rfl ag53 rfl (by repeat (first | exact List.Mem.head _ | refine List.Mem.tail _ ?_)) rfl (by repeat (first | exact At.nil | refine At.cons ?_ | refine At.succ ?_))) ?_
    refine WM_val rfl rfl rfl rfl (R_loadA (vs := [_, _]) rfl ag26 rfl (by repeat (first | exact List.Mem.head _ | refine List.Mem.tail _ ?_)) rfl (by repeat (first | exact At.nil | refine At.cons ?_ | refine At.succ ?_))) ?_
    refine WM_do0 rfl rfl rfl (D_store (vs := [_]) rfl Try.sizeOf53 rfl rfl rfl rfl rfl (by repeat (first | exact Pull.head | apply Pull.tail)) (by exact Nat.le_of_ble_eq_true rfl)) ?_
    rintro _ _ rfl
    refine ⟨⟨_, by repeat (first | exact Pulls.nil | exact Pulls.all | (apply Pulls.cons; (repeat (first | exact Pull.head | apply Pull.tail))) | apply Pulls.skip)⟩, ?_⟩
    refine WM_do0 rfl rfl rfl (D_store (vs := [_, _]) rfl Try.sizeOf26 rfl rfl rfl rfl rfl (by repeat (first | exact Pull.head | apply Pull.tail)) (by exact Nat.le_of_ble_eq_true rfl)) ?_
    rintro _ _ rfl
    refine ⟨⟨_, by repeat (first | exact Pulls.nil | exact Pulls.all | (apply Pulls.cons; (repeat (first | exact Pull.head | apply Pull.tail))) | apply Pulls.skip)⟩, ?_⟩
    refine WM_val rfl rfl rfl rfl (R_assign rfl rfl) ?_
    refine WM_nil ?_
    refine WQ_code ?_
    refine WC_ret ?_
    refine WQ_ret rfl rfl (.cons (.cell (vs := [_]) rfl ag53 (by repeat (first | exact List.Mem.head _ | refine List.Mem.tail _ ?_)) rfl (by repeat (first | exact At.nil | refine At.cons ?_ | refine At.succ ?_))) (.cons (.cell (vs := [_, _]) rfl ag26 (by repeat (first | exact List.Mem.head _ | refine List.Mem.tail _ ?_)) rfl (by repeat (first | exact At.nil | refine At.cons ?_ | refine At.succ ?_))) (.cons (.tmp rfl) .nil))) rfl (by
        exact ⟨_, rfl, ob7, cap7, tl7, rfl, own7, rfl⟩) (by repeat (first | exact Pulls.nil | exact Pulls.all | (apply Pulls.cons; (repeat (first | exact Pull.head | apply Pull.tail))) | apply Pulls.skip))
  · have hyes : isL L j = true := by simpa using c1
    have hne : j ≠ f := by rintro rfl; obtain ⟨w9, h9, e9⟩ := isL_iff.1 hyes; exact hf.out w9 h9 e9
    refine WC_skip ?_
    refine WQ_code ?_
    refine WC_region ?_
    refine WL_val rfl rfl rfl (R_move rfl rfl) ?_
    refine WL_val rfl rfl rfl (R_add rfl rfl rfl (by omega)) ?_
    refine WL_val rfl rfl rfl (R_assign rfl rfl) ?_
    refine WL_nil ?_
    refine WQ_nextF (j + 1) (by omega) (by omega) (Le.lq (by repeat (first | exact Le.nil | refine Le.cons rfl (by first | rfl | (congr 1; omega)) ?_))) (by repeat (first | exact Pushed.refl | refine Pushed.push rfl ?_)) rfl (by repeat (first | exact Pulls.nil | exact Pulls.all | (apply Pulls.cons; (repeat (first | exact Pull.head | apply Pull.tail))) | apply Pulls.skip))
theorem rset_c (L : List Tm) (or_ : Option Nat) (cr : Nat) (tr : List Value) (ho : Own or_ L.length cr 5 (L.flatMap encR) tr) (hl : L.length ≤ 100000) (k : Nat) (own : Int) (q a b : Nat) (e : Int) (L' : List Tm) (hc : SetC L q k own a b e L') : Spec Try.prog 37 [.agg #[slV or_ L.length cr], .int .u64 (k : Int), .int .i64 own] [⟨or_, cl (L.flatMap encR ++ tr) 58⟩] (fun r H' => ∃ V', r = .tuple #[V', .agg #[.int .i64 (a : Int), .int .i64 (b : Int)], .int .i64 e] ∧ RIs L' V' H') := by
  rcases hc with ⟨rfl, rfl, rfl, rfl, rfl⟩ | ⟨h1, h2, rfl, rfl, rfl, rfl⟩ | ⟨h1, h2, rfl, h3, rfl, rfl⟩
  · exact rset_arg L' or_ cr tr ho hl own
  · exact rset_full L' or_ cr tr ho hl k h1 h2 own
  · exact rset_ok L or_ cr tr ho hl k h1 h2 a h3 own q
theorem rreset_arg (L : List Tm) (or_ : Option Nat) (cr : Nat) (tr : List Value) (ho : Own or_ L.length cr 5 (L.flatMap encR) tr) (hl : L.length ≤ 100000) (N G : Int) : Spec Try.prog 38 [.agg #[slV or_ L.length cr], .agg #[.int .i64 N, .int .i64 G], .int .u64 18446744073709551615] [⟨or_, cl (L.flatMap encR ++ tr) 58⟩] (fun r H' => ∃ V', r = .tuple #[V', .int .i64 2] ∧ RIs L V' H') := by
  refine Spec.of (E := [(0, .agg #[slV or_ L.length cr]), (1, .agg #[.int .i64 N, .int .i64 G]), (2, .int .u64 18446744073709551615)]) Try.func38 rfl (by kernel_rfl) Try.ntmps38 rfl rfl (fun w => ?_)
  refine WC_seq ?_
  refine WC_region ?_
  refine WL_do rfl rfl rfl (D_box (cs := [_]) rfl rfl rfl) ?_
  rintro _ _ ⟨b1, rfl, rfl⟩
  refine WL_do rfl rfl rfl (D_box (cs := [_, _]) rfl rfl rfl) ?_
  rintro _ _ ⟨b2, rfl, rfl⟩
  refine WL_do rfl rfl rfl (D_alloc rfl zv53) ?_
  rintro _ _ ⟨b3, rfl, rfl⟩
  refine WL_val rfl rfl rfl (R_assign rfl rfl) ?_
  refine WL_nil ?_
  refine WQ_code ?_
  refine WC_seq ?_
  refine WC_seq ?_
  refine WC_region ?_
  refine WL_val rfl rfl rfl (R_move rfl rfl) ?_
  refine WL_val rfl rfl rfl (R_eql rfl rfl rfl) ?_
  refine WL_nil ?_
  refine WQ_code ?_
  refine WC_dT rfl (by rfl) ?_
  refine WC_seq ?_
  refine WC_region ?_
  refine WL_val rfl rfl rfl (R_loadA (vs := [_]) rfl ag53 rfl (by repeat (first | exact List.Mem.head _ | refine List.Mem.tail _ ?_)) rfl (by repeat (first | exact At.nil | refine At.cons ?_ | refine At.succ ?_))) ?_
  refine WL_do0 rfl rfl (D_store (vs := [_]) rfl Try.sizeOf53 rfl rfl rfl rfl rfl (by repeat (first | exact Pull.head | apply Pull.tail)) (by exact Nat.le_of_ble_eq_true rfl)) ?_
  rintro _ _ rfl
  refine WL_val rfl rfl rfl (R_assign rfl rfl) ?_
  refine WL_nil ?_
  refine WQ_code ?_
  refine WC_ret ?_
  refine WQ_ret rfl rfl (.cons (.cell (vs := [_]) rfl ag53 (by repeat (first | exact List.Mem.head _ | refine List.Mem.tail _ ?_)) rfl (by repeat (first | exact At.nil | refine At.cons ?_ | refine At.succ ?_))) (.cons (.tmp rfl) .nil)) rfl (by
      exact ⟨_, rfl, or_, cr, tr, rfl, ho, rfl⟩) (by repeat (first | exact Pulls.nil | exact Pulls.all | (apply Pulls.cons; (repeat (first | exact Pull.head | apply Pull.tail))) | apply Pulls.skip))
theorem rreset_no (L : List Tm) (or_ : Option Nat) (cr : Nat) (tr : List Value) (ho : Own or_ L.length cr 5 (L.flatMap encR) tr) (hl : L.length ≤ 100000) (N G : Int) (k : Nat) (hk : k < 18446744073709551615) (hn : ¬ ∃ t ∈ L, t.gone = false ∧ (t.n : Int) = N ∧ (t.gen : Int) = G) : Spec Try.prog 38 [.agg #[slV or_ L.length cr], .agg #[.int .i64 N, .int .i64 G], .int .u64 (k : Int)] [⟨or_, cl (L.flatMap encR ++ tr) 58⟩] (fun r H' => ∃ V', r = .tuple #[V', .int .i64 9] ∧ RIs L V' H') := by
  refine Spec.of (E := [(0, .agg #[slV or_ L.length cr]), (1, .agg #[.int .i64 N, .int .i64 G]), (2, .int .u64 (k : Int))]) Try.func38 rfl (by kernel_rfl) Try.ntmps38 rfl rfl (fun w => ?_)
  refine WC_seq ?_
  refine WC_region ?_
  refine WL_do rfl rfl rfl (D_box (cs := [_]) rfl rfl rfl) ?_
  rintro _ _ ⟨b1, rfl, rfl⟩
  refine WL_do rfl rfl rfl (D_box (cs := [_, _]) rfl rfl rfl) ?_
  rintro _ _ ⟨b2, rfl, rfl⟩
  refine WL_do rfl rfl rfl (D_alloc rfl zv53) ?_
  rintro _ _ ⟨b3, rfl, rfl⟩
  refine WL_val rfl rfl rfl (R_assign rfl rfl) ?_
  refine WL_nil ?_
  refine WQ_code ?_
  refine WC_seq ?_
  refine WC_seq ?_
  refine WC_region ?_
  refine WL_val rfl rfl rfl (R_move rfl rfl) ?_
  refine WL_val rfl rfl rfl (R_eql rfl rfl rfl) ?_
  refine WL_nil ?_
  refine WQ_code ?_
  refine WC_dF rfl (by omega) ?_
  refine WC_skip ?_
  refine WQ_code ?_
  refine WC_seq ?_
  refine WC_region ?_
  refine WL_val rfl rfl rfl (R_loadA (vs := [_]) rfl ag53 rfl (by repeat (first | exact List.Mem.head _ | refine List.Mem.tail _ ?_)) rfl (by repeat (first | exact At.nil | refine At.cons ?_ | refine At.succ ?_))) ?_
  refine WL_val rfl rfl rfl (R_loadA (vs := [_, _]) rfl ag26 rfl (by repeat (first | exact List.Mem.head _ | refine List.Mem.tail _ ?_)) rfl (by repeat (first | exact At.nil | refine At.cons ?_ | refine At.succ ?_))) ?_
  refine WL_do rfl rfl rfl (D_call (rat_none L or_ cr tr ho hl N G hn) rfl rfl rfl rfl (by repeat (first | exact Pulls.nil | exact Pulls.all | (apply Pulls.cons; (repeat (first | exact Pull.head | apply Pull.tail))) | apply Pulls.skip))) ?_
  rintro _ _ ⟨_, ⟨rfl, rfl⟩, rfl⟩
  refine WL_val rfl rfl rfl (R_assign rfl rfl) ?_
  refine WL_nil ?_
  refine WQ_code ?_
  refine WC_seq ?_
  refine WC_seq ?_
  refine WC_region ?_
  refine WL_val rfl rfl rfl (R_move rfl rfl) ?_
  refine WL_val rfl rfl rfl (R_lss rfl rfl rfl) ?_
  refine WL_nil ?_
  refine WQ_code ?_
  refine WC_dT rfl (by omega) ?_
  refine WC_seq ?_
  refine WC_region ?_
  refine WL_val rfl rfl rfl (R_loadA (vs := [_]) rfl ag53 rfl (by repeat (first | exact List.Mem.head _ | refine List.Mem.tail _ ?_)) rfl (by repeat (first | exact At.nil | refine At.cons ?_ | refine At.succ ?_))) ?_
  refine WL_do0 rfl rfl (D_store (vs := [_]) rfl Try.sizeOf53 rfl rfl rfl rfl rfl (by repeat (first | exact Pull.head | apply Pull.tail)) (by exact Nat.le_of_ble_eq_true rfl)) ?_
  rintro _ _ rfl
  refine WL_val rfl rfl rfl (R_assign rfl rfl) ?_
  refine WL_nil ?_
  refine WQ_code ?_
  refine WC_ret ?_
  refine WQ_ret rfl rfl (.cons (.cell (vs := [_]) rfl ag53 (by repeat (first | exact List.Mem.head _ | refine List.Mem.tail _ ?_)) rfl (by repeat (first | exact At.nil | refine At.cons ?_ | refine At.succ ?_))) (.cons (.tmp rfl) .nil)) rfl (by
      exact ⟨_, rfl, or_, cr, tr, rfl, ho, rfl⟩) (by repeat (first | exact Pulls.nil | exact Pulls.all | (apply Pulls.cons; (repeat (first | exact Pull.head | apply Pull.tail))) | apply Pulls.skip))
theorem rreset_ok (L : List Tm) (or_ : Option Nat) (cr : Nat) (tr : List Value) (ho : Own or_ L.length cr 5 (L.flatMap encR) tr) (hl : L.length ≤ 100000) (gv : List Nat) (n : Nat) (r0 : TRel L gv n) (i : Nat) (t : Tm) (hi : L[i]? = some t) (hg : t.gone = false) (k : Nat) (hk : k < 18446744073709551615) : Spec Try.prog 38 [.agg #[slV or_ L.length cr], .agg #[.int .i64 (t.n : Int), .int .i64 (t.gen : Int)], .int .u64 (k : Int)] [⟨or_, cl (L.flatMap encR ++ tr) 58⟩] (fun r H' => ∃ V', r = .tuple #[V', .int .i64 0] ∧ RIs (chgL L t.n k) V' H') := by
  have hil := (List.getElem?_eq_some_iff.1 hi).1
  rw [chgL_set r0 hi hg]
  refine Spec.of (E := [(0, .agg #[slV or_ L.length cr]), (1, .agg #[.int .i64 (t.n : Int), .int .i64 (t.gen : Int)]), (2, .int .u64 (k : Int))]) Try.func38 rfl (by kernel_rfl) Try.ntmps38 rfl rfl (fun w => ?_)
  refine WC_seq ?_
  refine WC_region ?_
  refine WL_do rfl rfl rfl (D_box (cs := [_]) rfl rfl rfl) ?_
  rintro _ _ ⟨b1, rfl, rfl⟩
  refine WL_do rfl rfl rfl (D_box (cs := [_, _]) rfl rfl rfl) ?_
  rintro _ _ ⟨b2, rfl, rfl⟩
  refine WL_do rfl rfl rfl (D_alloc rfl zv53) ?_
  rintro _ _ ⟨b3, rfl, rfl⟩
  refine WL_val rfl rfl rfl (R_assign rfl rfl) ?_
  refine WL_nil ?_
  refine WQ_code ?_
  refine WC_seq ?_
  refine WC_seq ?_
  refine WC_region ?_
  refine WL_val rfl rfl rfl (R_move rfl rfl) ?_
  refine WL_val rfl rfl rfl (R_eql rfl rfl rfl) ?_
  refine WL_nil ?_
  refine WQ_code ?_
  refine WC_dF rfl (by omega) ?_
  refine WC_skip ?_
  refine WQ_code ?_
  refine WC_seq ?_
  refine WC_region ?_
  refine WL_val rfl rfl rfl (R_loadA (vs := [_]) rfl ag53 rfl (by repeat (first | exact List.Mem.head _ | refine List.Mem.tail _ ?_)) rfl (by repeat (first | exact At.nil | refine At.cons ?_ | refine At.succ ?_))) ?_
  refine WL_val rfl rfl rfl (R_loadA (vs := [_, _]) rfl ag26 rfl (by repeat (first | exact List.Mem.head _ | refine List.Mem.tail _ ?_)) rfl (by repeat (first | exact At.nil | refine At.cons ?_ | refine At.succ ?_))) ?_
  refine WL_do rfl rfl rfl (D_call (rat_some L or_ cr tr ho hl gv n r0 i t hi hg) rfl rfl rfl rfl (by repeat (first | exact Pulls.nil | exact Pulls.all | (apply Pulls.cons; (repeat (first | exact Pull.head | apply Pull.tail))) | apply Pulls.skip))) ?_
  rintro _ _ ⟨_, ⟨rfl, rfl⟩, rfl⟩
  refine WL_val rfl rfl rfl (R_assign rfl rfl) ?_
  refine WL_nil ?_
  refine WQ_code ?_
  refine WC_seq ?_
  refine WC_seq ?_
  refine WC_region ?_
  refine WL_val rfl rfl rfl (R_move rfl rfl) ?_
  refine WL_val rfl rfl rfl (R_lss rfl rfl rfl) ?_
  refine WL_nil ?_
  refine WQ_code ?_
  refine WC_dF rfl (by omega) ?_
  refine WC_skip ?_
  refine WQ_code ?_
  refine WC_seq ?_
  refine WC_region ?_
  refine WL_val rfl rfl rfl (R_loadA (vs := [_]) rfl ag53 rfl (by repeat (first | exact List.Mem.head _ | refine List.Mem.tail _ ?_)) rfl (by repeat (first | exact At.nil | refine At.cons ?_ | refine At.succ ?_))) ?_
  refine WL_do rfl rfl rfl (D_call (rcopy_ok L or_ cr tr ho hl) rfl rfl rfl rfl (by repeat (first | exact Pulls.nil | exact Pulls.all | (apply Pulls.cons; (repeat (first | exact Pull.head | apply Pull.tail))) | apply Pulls.skip))) ?_
  rintro _ _ ⟨_, ⟨o2, c2, t2, rfl, own2, rfl⟩, rfl⟩
  refine WL_do rfl rfl rfl (D_alloc rfl zv53) ?_
  rintro _ _ ⟨b4, rfl, rfl⟩
  refine WL_do0 rfl rfl (D_store (vs := [_]) rfl Try.sizeOf53 rfl rfl rfl rfl rfl (by repeat (first | exact Pull.head | apply Pull.tail)) (by exact Nat.le_of_ble_eq_true rfl)) ?_
  rintro _ _ rfl
  refine WL_nil ?_
  refine WQ_code ?_
  refine WC_seq ?_
  refine WC_region ?_
  obtain ⟨b9, rfl⟩ := own2.some_of (by omega)
  refine WL_val rfl rfl rfl (R_fieldAddr rfl fa53_0 rfl) ?_
  refine WL_val rfl rfl rfl (R_load rfl sc51 rfl (by repeat (first | exact List.Mem.head _ | refine List.Mem.tail _ ?_)) rfl) ?_
  refine WL_val rfl rfl rfl (R_move rfl rfl) ?_
  refine WL_val rfl rfl rfl (R_move rfl rfl) ?_
  refine WL_val rfl rfl rfl (R_indexAddrN rfl Try.underlying51 Try.sizeOf58 rfl rfl (by omega)) ?_
  refine WL_val rfl rfl rfl (R_fieldAddr rfl fa58_2 rfl) ?_
  refine WL_do0 rfl rfl (D_store (vs := [_]) rfl Try.sizeOf31 rfl rfl rfl rfl rfl (by repeat (first | exact Pull.head | apply Pull.tail)) (by exact fm_room0 encR5 hil (j := 3) (by omega))) ?_
  rintro _ _ rfl
  have hput := fm_put0 encR5 ({ t with tm := k } : Tm) hi (j := 3) (vs := [.int .u64 (k : Int)]) (by simp) rfl (tl := t2)
  rw [hput, show L.length = (L.set i { t with tm := k }).length from List.length_set.symm] at *
  refine WL_nil ?_
  refine WQ_code ?_
  refine WC_seq ?_
  refine WC_region ?_
  refine WL_val rfl rfl rfl (R_loadA (vs := [_]) rfl ag53 rfl (by repeat (first | exact List.Mem.head _ | refine List.Mem.tail _ ?_)) rfl (by repeat (first | exact At.nil | refine At.cons ?_ | refine At.succ ?_))) ?_
  refine WL_do0 rfl rfl (D_store (vs := [_]) rfl Try.sizeOf53 rfl rfl rfl rfl rfl (by repeat (first | exact Pull.head | apply Pull.tail)) (by exact Nat.le_of_ble_eq_true rfl)) ?_
  rintro _ _ rfl
  refine WL_val rfl rfl rfl (R_assign rfl rfl) ?_
  refine WL_nil ?_
  refine WQ_code ?_
  refine WC_ret ?_
  refine WQ_ret rfl rfl (.cons (.cell (vs := [_]) rfl ag53 (by repeat (first | exact List.Mem.head _ | refine List.Mem.tail _ ?_)) rfl (by repeat (first | exact At.nil | refine At.cons ?_ | refine At.succ ?_))) (.cons (.tmp rfl) .nil)) rfl (by
      exact ⟨_, rfl, _, c2, t2, rfl, own2.like (by simp only [fm_length encR5, List.length_set]), rfl⟩) (by repeat (first | exact Pulls.nil | exact Pulls.all | (apply Pulls.cons; (repeat (first | exact Pull.head | apply Pull.tail))) | apply Pulls.skip))
theorem rstop_no (L : List Tm) (or_ : Option Nat) (cr : Nat) (tr : List Value) (ho : Own or_ L.length cr 5 (L.flatMap encR) tr) (hl : L.length ≤ 100000) (N G : Int) (hn : ¬ ∃ t ∈ L, t.gone = false ∧ (t.n : Int) = N ∧ (t.gen : Int) = G) : Spec Try.prog 39 [.agg #[slV or_ L.length cr], .agg #[.int .i64 N, .int .i64 G]] [⟨or_, cl (L.flatMap encR ++ tr) 58⟩] (fun r H' => ∃ V', r = .tuple #[V', .int .i64 9] ∧ RIs L V' H') := by
  refine Spec.of (E := [(0, .agg #[slV or_ L.length cr]), (1, .agg #[.int .i64 N, .int .i64 G])]) Try.func39 rfl (by kernel_rfl) Try.ntmps39 rfl rfl (fun w => ?_)
  refine WC_seq ?_
  refine WC_region ?_
  refine WL_do rfl rfl rfl (D_box (cs := [_]) rfl rfl rfl) ?_
  rintro _ _ ⟨b1, rfl, rfl⟩
  refine WL_do rfl rfl rfl (D_box (cs := [_, _]) rfl rfl rfl) ?_
  rintro _ _ ⟨b2, rfl, rfl⟩
  refine WL_do rfl rfl rfl (D_alloc rfl zv53) ?_
  rintro _ _ ⟨b3, rfl, rfl⟩
  refine WL_val rfl rfl rfl (R_assign rfl rfl) ?_
  refine WL_nil ?_
  refine WQ_code ?_
  refine WC_seq ?_
  refine WC_region ?_
  refine WL_val rfl rfl rfl (R_loadA (vs := [_]) rfl ag53 rfl (by repeat (first | exact List.Mem.head _ | refine List.Mem.tail _ ?_)) rfl (by repeat (first | exact At.nil | refine At.cons ?_ | refine At.succ ?_))) ?_
  refine WL_val rfl rfl rfl (R_loadA (vs := [_, _]) rfl ag26 rfl (by repeat (first | exact List.Mem.head _ | refine List.Mem.tail _ ?_)) rfl (by repeat (first | exact At.nil | refine At.cons ?_ | refine At.succ ?_))) ?_
  refine WL_do rfl rfl rfl (D_call (rat_none L or_ cr tr ho hl N G hn) rfl rfl rfl rfl (by repeat (first | exact Pulls.nil | exact Pulls.all | (apply Pulls.cons; (repeat (first | exact Pull.head | apply Pull.tail))) | apply Pulls.skip))) ?_
  rintro _ _ ⟨_, ⟨rfl, rfl⟩, rfl⟩
  refine WL_val rfl rfl rfl (R_assign rfl rfl) ?_
  refine WL_nil ?_
  refine WQ_code ?_
  refine WC_seq ?_
  refine WC_seq ?_
  refine WC_region ?_
  refine WL_val rfl rfl rfl (R_move rfl rfl) ?_
  refine WL_val rfl rfl rfl (R_lss rfl rfl rfl) ?_
  refine WL_nil ?_
  refine WQ_code ?_
  refine WC_dT rfl (by omega) ?_
  refine WC_seq ?_
  refine WC_region ?_
  refine WL_val rfl rfl rfl (R_loadA (vs := [_]) rfl ag53 rfl (by repeat (first | exact List.Mem.head _ | refine List.Mem.tail _ ?_)) rfl (by repeat (first | exact At.nil | refine At.cons ?_ | refine At.succ ?_))) ?_
  refine WL_do0 rfl rfl (D_store (vs := [_]) rfl Try.sizeOf53 rfl rfl rfl rfl rfl (by repeat (first | exact Pull.head | apply Pull.tail)) (by exact Nat.le_of_ble_eq_true rfl)) ?_
  rintro _ _ rfl
  refine WL_val rfl rfl rfl (R_assign rfl rfl) ?_
  refine WL_nil ?_
  refine WQ_code ?_
  refine WC_ret ?_
  refine WQ_ret rfl rfl (.cons (.cell (vs := [_]) rfl ag53 (by repeat (first | exact List.Mem.head _ | refine List.Mem.tail _ ?_)) rfl (by repeat (first | exact At.nil | refine At.cons ?_ | refine At.succ ?_))) (.cons (.tmp rfl) .nil)) rfl (by
      exact ⟨_, rfl, or_, cr, tr, rfl, ho, rfl⟩) (by repeat (first | exact Pulls.nil | exact Pulls.all | (apply Pulls.cons; (repeat (first | exact Pull.head | apply Pull.tail))) | apply Pulls.skip))
theorem rstop_ok (L : List Tm) (or_ : Option Nat) (cr : Nat) (tr : List Value) (ho : Own or_ L.length cr 5 (L.flatMap encR) tr) (hl : L.length ≤ 100000) (gv : List Nat) (n : Nat) (r0 : TRel L gv n) (i : Nat) (t : Tm) (hi : L[i]? = some t) (hg : t.gone = false) : Spec Try.prog 39 [.agg #[slV or_ L.length cr], .agg #[.int .i64 (t.n : Int), .int .i64 (t.gen : Int)]] [⟨or_, cl (L.flatMap encR ++ tr) 58⟩] (fun r H' => ∃ V', r = .tuple #[V', .int .i64 0] ∧ RIs (rmL L t.n) V' H') := by
  have hil := (List.getElem?_eq_some_iff.1 hi).1
  rw [rmL_set r0 hi hg]
  refine Spec.of (E := [(0, .agg #[slV or_ L.length cr]), (1, .agg #[.int .i64 (t.n : Int), .int .i64 (t.gen : Int)])]) Try.func39 rfl (by kernel_rfl) Try.ntmps39 rfl rfl (fun w => ?_)
  refine WC_seq ?_
  refine WC_region ?_
  refine WL_do rfl rfl rfl (D_box (cs := [_]) rfl rfl rfl) ?_
  rintro _ _ ⟨b1, rfl, rfl⟩
  refine WL_do rfl rfl rfl (D_box (cs := [_, _]) rfl rfl rfl) ?_
  rintro _ _ ⟨b2, rfl, rfl⟩
  refine WL_do rfl rfl rfl (D_alloc rfl zv53) ?_
  rintro _ _ ⟨b3, rfl, rfl⟩
  refine WL_val rfl rfl rfl (R_assign rfl rfl) ?_
  refine WL_nil ?_
  refine WQ_code ?_
  refine WC_seq ?_
  refine WC_region ?_
  refine WL_val rfl rfl rfl (R_loadA (vs := [_]) rfl ag53 rfl (by repeat (first | exact List.Mem.head _ | refine List.Mem.tail _ ?_)) rfl (by repeat (first | exact At.nil | refine At.cons ?_ | refine At.succ ?_))) ?_
  refine WL_val rfl rfl rfl (R_loadA (vs := [_, _]) rfl ag26 rfl (by repeat (first | exact List.Mem.head _ | refine List.Mem.tail _ ?_)) rfl (by repeat (first | exact At.nil | refine At.cons ?_ | refine At.succ ?_))) ?_
  refine WL_do rfl rfl rfl (D_call (rat_some L or_ cr tr ho hl gv n r0 i t hi hg) rfl rfl rfl rfl (by repeat (first | exact Pulls.nil | exact Pulls.all | (apply Pulls.cons; (repeat (first | exact Pull.head | apply Pull.tail))) | apply Pulls.skip))) ?_
  rintro _ _ ⟨_, ⟨rfl, rfl⟩, rfl⟩
  refine WL_val rfl rfl rfl (R_assign rfl rfl) ?_
  refine WL_nil ?_
  refine WQ_code ?_
  refine WC_seq ?_
  refine WC_seq ?_
  refine WC_region ?_
  refine WL_val rfl rfl rfl (R_move rfl rfl) ?_
  refine WL_val rfl rfl rfl (R_lss rfl rfl rfl) ?_
  refine WL_nil ?_
  refine WQ_code ?_
  refine WC_dF rfl (by omega) ?_
  refine WC_skip ?_
  refine WQ_code ?_
  refine WC_seq ?_
  refine WC_region ?_
  refine WL_val rfl rfl rfl (R_loadA (vs := [_]) rfl ag53 rfl (by repeat (first | exact List.Mem.head _ | refine List.Mem.tail _ ?_)) rfl (by repeat (first | exact At.nil | refine At.cons ?_ | refine At.succ ?_))) ?_
  refine WL_do rfl rfl rfl (D_call (rcopy_ok L or_ cr tr ho hl) rfl rfl rfl rfl (by repeat (first | exact Pulls.nil | exact Pulls.all | (apply Pulls.cons; (repeat (first | exact Pull.head | apply Pull.tail))) | apply Pulls.skip))) ?_
  rintro _ _ ⟨_, ⟨o2, c2, t2, rfl, own2, rfl⟩, rfl⟩
  refine WL_do rfl rfl rfl (D_alloc rfl zv53) ?_
  rintro _ _ ⟨b4, rfl, rfl⟩
  refine WL_do0 rfl rfl (D_store (vs := [_]) rfl Try.sizeOf53 rfl rfl rfl rfl rfl (by repeat (first | exact Pull.head | apply Pull.tail)) (by exact Nat.le_of_ble_eq_true rfl)) ?_
  rintro _ _ rfl
  refine WL_nil ?_
  refine WQ_code ?_
  refine WC_seq ?_
  refine WC_region ?_
  obtain ⟨b9, rfl⟩ := own2.some_of (by omega)
  refine WL_val rfl rfl rfl (R_fieldAddr rfl fa53_0 rfl) ?_
  refine WL_val rfl rfl rfl (R_load rfl sc51 rfl (by repeat (first | exact List.Mem.head _ | refine List.Mem.tail _ ?_)) rfl) ?_
  refine WL_val rfl rfl rfl (R_move rfl rfl) ?_
  refine WL_val rfl rfl rfl (R_indexAddrN rfl Try.underlying51 Try.sizeOf58 rfl rfl (by omega)) ?_
  refine WL_val rfl rfl rfl (R_fieldAddr rfl fa58_3 rfl) ?_
  refine WL_do0 rfl rfl (D_store (vs := [_]) rfl Try.sizeOf4 rfl rfl rfl rfl rfl (by repeat (first | exact Pull.head | apply Pull.tail)) (by exact fm_room0 encR5 hil (j := 4) (by omega))) ?_
  rintro _ _ rfl
  have hput := fm_put0 encR5 ({ t with gone := true } : Tm) hi (j := 4) (vs := [.bool true]) (by simp) rfl (tl := t2)
  rw [hput, show L.length = (L.set i { t with gone := true }).length from List.length_set.symm] at *
  refine WL_nil ?_
  refine WQ_code ?_
  refine WC_seq ?_
  refine WC_region ?_
  refine WL_val rfl rfl rfl (R_loadA (vs := [_]) rfl ag53 rfl (by repeat (first | exact List.Mem.head _ | refine List.Mem.tail _ ?_)) rfl (by repeat (first | exact At.nil | refine At.cons ?_ | refine At.succ ?_))) ?_
  refine WL_do0 rfl rfl (D_store (vs := [_]) rfl Try.sizeOf53 rfl rfl rfl rfl rfl (by repeat (first | exact Pull.head | apply Pull.tail)) (by exact Nat.le_of_ble_eq_true rfl)) ?_
  rintro _ _ rfl
  refine WL_val rfl rfl rfl (R_assign rfl rfl) ?_
  refine WL_nil ?_
  refine WQ_code ?_
  refine WC_ret ?_
  refine WQ_ret rfl rfl (.cons (.cell (vs := [_]) rfl ag53 (by repeat (first | exact List.Mem.head _ | refine List.Mem.tail _ ?_)) rfl (by repeat (first | exact At.nil | refine At.cons ?_ | refine At.succ ?_))) (.cons (.tmp rfl) .nil)) rfl (by
      exact ⟨_, rfl, _, c2, t2, rfl, own2.like (by simp only [fm_length encR5, List.length_set]), rfl⟩) (by repeat (first | exact Pulls.nil | exact Pulls.all | (apply Pulls.cons; (repeat (first | exact Pull.head | apply Pull.tail))) | apply Pulls.skip))
structure EW3 where
  L : List Tm
  o : Option Nat
  c : Nat
  t : List Value
  d : List Tm
  ob : Option Nat
  cb : Nat
  tb : List Value
theorem rexp_ok (L : List Tm) (or_ : Option Nat) (cr : Nat) (tr : List Value) (ho : Own or_ L.length cr 5 (L.flatMap encR) tr) (hl : L.length ≤ 100000) (gv : List Nat) (n : Nat) (r0 : TRel L gv n) (now : Nat) (hnow : now ≤ 18446744073709551615) : Spec Try.prog 40 [.agg #[slV or_ L.length cr], .int .u64 (now : Int)] [⟨or_, cl (L.flatMap encR ++ tr) 58⟩]
    (fun r H' => ∃ o c t ob cb tb, r = .tuple #[.agg #[slV o (xL now L).1.length c], slV ob (xL now L).2.length cb] ∧ Own o (xL now L).1.length c 5 ((xL now L).1.flatMap encR) t ∧ Own ob (xL now L).2.length cb 4 ((xL now L).2.flatMap encDu) tb ∧
      H' = [⟨o, cl ((xL now L).1.flatMap encR ++ t) 58⟩, ⟨ob, cl ((xL now L).2.flatMap encDu ++ tb) 40⟩]) := by
  refine Spec.of (E := [(0, .agg #[slV or_ L.length cr]), (1, .int .u64 (now : Int))]) Try.func40 rfl (by kernel_rfl) Try.ntmps40 rfl rfl (fun w => ?_)
  refine WC_seq ?_
  refine WC_region ?_
  refine WL_do rfl rfl rfl (D_box (cs := [_]) rfl rfl rfl) ?_
  rintro _ _ ⟨b1, rfl, rfl⟩
  refine WL_do rfl rfl rfl (D_alloc rfl zv53) ?_
  rintro _ _ ⟨b2, rfl, rfl⟩
  refine WL_val rfl rfl rfl (R_assign rfl rfl) ?_
  refine WL_nil ?_
  refine WQ_code ?_
  refine WC_seq ?_
  refine WC_region ?_
  refine WL_val rfl rfl rfl (R_loadA (vs := [_]) rfl ag53 rfl (by repeat (first | exact List.Mem.head _ | refine List.Mem.tail _ ?_)) rfl (by repeat (first | exact At.nil | refine At.cons ?_ | refine At.succ ?_))) ?_
  refine WL_do rfl rfl rfl (D_call (rcopy_ok L or_ cr tr ho hl) rfl rfl rfl rfl (by repeat (first | exact Pulls.nil | exact Pulls.all | (apply Pulls.cons; (repeat (first | exact Pull.head | apply Pull.tail))) | apply Pulls.skip))) ?_
  rintro _ _ ⟨_, ⟨o2, c2, t2, rfl, own2, rfl⟩, rfl⟩
  refine WL_do rfl rfl rfl (D_alloc rfl zv53) ?_
  rintro _ _ ⟨b3, rfl, rfl⟩
  refine WL_do0 rfl rfl (D_store (vs := [_]) rfl Try.sizeOf53 rfl rfl rfl rfl rfl (by repeat (first | exact Pull.head | apply Pull.tail)) (by exact Nat.le_of_ble_eq_true rfl)) ?_
  rintro _ _ rfl
  refine WL_nil ?_
  refine WQ_code ?_
  refine WC_seq ?_
  refine WC_region ?_
  refine WL_val rfl rfl rfl (R_assign rfl rfl) ?_
  refine WL_nil ?_
  refine WQ_code ?_
  refine WC_seq ?_
  refine WC_seq ?_
  refine WC_region ?_
  refine WL_val rfl rfl rfl (R_loadA (vs := [_]) rfl ag53 rfl (by repeat (first | exact List.Mem.head _ | refine List.Mem.tail _ ?_)) rfl (by repeat (first | exact At.nil | refine At.cons ?_ | refine At.succ ?_))) ?_
  refine WL_do rfl rfl rfl (D_call (rfirst_ok L o2 c2 t2 own2 hl) rfl rfl rfl rfl (by repeat (first | exact Pulls.nil | exact Pulls.all | (apply Pulls.cons; (repeat (first | exact Pull.head | apply Pull.tail))) | apply Pulls.skip))) ?_
  rintro _ _ ⟨_, ⟨rfl, rfl⟩, rfl⟩
  refine WL_val rfl rfl rfl (R_assign rfl rfl) ?_
  refine WL_nil ?_
  refine WQ_code ?_
  refine WC_block ?_
  refine WC_none 40 ?_
  refine WC_loopF (G := EW3) [7, 8, 13, 14, 15, 16, 17, 18, 19, 20, 21, 22, 23, 24, 25, 26, 27, 28, 29, 30, 31, 32, 33, 34, 35, 36, 37, 38, 39, 40, 41, 42, 43, 44, 45, 46, 47, 48, 49, 50, 51, 52, 53] (fun y => TRel y.L gv n ∧ y.L.length = L.length ∧ Own y.o y.L.length y.c 5 (y.L.flatMap encR) y.t ∧ Own y.ob y.d.length y.cb 4 (y.d.flatMap encDu) y.tb ∧ y.d.length + (live y.L).length ≤ 100000 ∧ xL now L = ((xL now y.L).1, y.d ++ (xL now y.L).2)) (fun y => [(8, .int .i64 (fiI y.L)), (7, slV y.ob y.d.length y.cb)]) (fun y => ⟨some b3, cl [slV y.o y.L.length y.c] 53⟩ :: ⟨y.o, cl (y.L.flatMap encR ++ y.t) 58⟩ :: ⟨y.ob, cl (y.d.flatMap encDu ++ y.tb) 40⟩ :: []) (fun y => (live y.L).length) (⟨L, o2, c2, t2, [], none, 0, []⟩) (⟨r0, rfl, own2, Own.empty 4, by have h9 : (live L).length ≤ L.length := List.length_filter_le _ _; dsimp only [List.length_nil]; omega, rfl⟩) (Le.lq (by repeat (first | exact Le.nil | refine Le.cons rfl (by first | rfl | (congr 1; omega)) ?_))) (by repeat (first | exact Pulls.nil | exact Pulls.all | (apply Pulls.cons; (repeat (first | exact Pull.head | apply Pull.tail))) | apply Pulls.skip)) ?_
  rintro y ⟨hyr, hyl, hyo, hyb, hyc, hye⟩
  refine WC_seq ?_
  refine WC_seq ?_
  refine WC_region ?_
  refine WL_val rfl rfl rfl (R_move rfl rfl) ?_
  refine WL_val rfl rfl rfl (R_geq rfl rfl rfl) ?_
  refine WL_val rfl rfl rfl (R_move rfl rfl) ?_
  refine WL_splitD (s := 15) rfl (fun c1 => ?_) (fun c1 => ?_)
  · obtain ⟨i, t, hfi⟩ : ∃ i t, fstP y.L = some (i, t) := by cases hf : fstP y.L with | none => rw [fiI_none hf] at c1; exact absurd c1 (by decide) | some z => exact ⟨z.1, z.2, rfl⟩
    have hfs := fstP_some hfi
    have hi := hfs.at_
    have hil := (List.getElem?_eq_some_iff.1 hi).1
    obtain ⟨bq, hbq⟩ := hyo.some_of (by omega)
    have hset := rmL_set hyr hi hfs.g
    have hll := live_rm hyr hi hfs.g
    rw [hbq]
    refine WL_val rfl rfl rfl (R_fieldAddr rfl fa53_0 rfl) ?_
    refine WL_val rfl rfl rfl (R_load rfl sc51 rfl (by repeat (first | exact List.Mem.head _ | refine List.Mem.tail _ ?_)) rfl) ?_
    refine WL_val rfl rfl rfl (R_move rfl rfl) ?_
    refine WL_set (s := 18) (v := .int .i64 (i : Int)) rfl (by rw [fiI_some hfi]) ?_
    refine WL_val rfl rfl rfl (R_indexAddrN rfl Try.underlying51 Try.sizeOf58 rfl rfl (by omega)) ?_
    refine WL_val rfl rfl rfl (R_fieldAddr rfl fa58_2 rfl) ?_
    refine WL_val rfl rfl rfl (R_load (v := .int .u64 (t.tm : Int)) rfl sc31 rfl (by repeat (first | exact List.Mem.head _ | refine List.Mem.tail _ ?_)) (fm_get0 encR5 hi (j := 3) (by omega))) ?_
    refine WL_val rfl rfl rfl (R_move rfl rfl) ?_
    refine WL_do rfl rfl rfl (D_call (rpass_ok t.tm now) rfl rfl rfl rfl (by repeat (first | exact Pulls.nil | exact Pulls.all | (apply Pulls.cons; (repeat (first | exact Pull.head | apply Pull.tail))) | apply Pulls.skip))) ?_
    rintro _ _ ⟨_, ⟨rfl, rfl⟩, rfl⟩
    refine WL_val rfl rfl rfl (R_pickT rfl rfl rfl) ?_
    refine WL_nil ?_
    refine WQ_code ?_
    refine WC_dec rfl (fun c2 => ?_) (fun c2 => ?_)
    · have hps : t.tm ≠ 18446744073709551615 ∧ now ≠ 18446744073709551615 ∧ t.tm ≤ now := c2
      have hexp : xL now y.L = ((xL now (rmL y.L t.n)).1, t :: (xL now (rmL y.L t.n)).2) := by unfold xL; rw [if_neg hps.2.1, if_neg hps.2.1]; exact eL_le hyr hfi hps.2.2
      refine WC_skip ?_
      refine WQ_code ?_
      refine WC_seq ?_
      refine WC_block ?_
      refine WC_seq ?_
      refine WC_drawR [⟨(y.ob), _⟩] [(0, true), (1, true), (2, true), (3, true), (4, true), (5, true), (6, true), (7, true), (8, true), (9, true), (10, true), (11, true), (12, true), (13, true), (14, true), (15, true), (16, true), (17, true), (18, true), (19, true), (20, false), (21, false), (22, true)] followsMixed rfl rfl (by kernel_rfl) (by repeat (first | exact Pulls.nil | exact Pulls.all | (apply Pulls.cons; (repeat (first | exact Pull.head | apply Pull.tail))) | apply Pulls.skip)) ?_
      refine WM_val rfl rfl rfl rfl (R_move rfl rfl) ?_
      refine WM_val rfl rfl rfl rfl (R_fieldAddr rfl fa53_0 rfl) ?_
      refine WM_val rfl rfl rfl rfl (R_load rfl sc51 rfl (by repeat (first | exact List.Mem.head _ | refine List.Mem.tail _ ?_)) rfl) ?_
      refine WM_val rfl rfl rfl rfl (R_move rfl rfl) ?_
      refine WM_set (s := 30) (v := .int .i64 (i : Int)) rfl (by rw [fiI_some hfi]) ?_
      refine WM_val rfl rfl rfl rfl (R_indexAddrN rfl Try.underlying51 Try.sizeOf58 rfl rfl (by omega)) ?_
      refine WM_val rfl rfl rfl rfl (R_fieldAddr rfl fa58_0 rfl) ?_
      refine WM_val rfl rfl rfl rfl (R_loadA (vs := [.int .i64 (t.n : Int), .int .i64 (t.gen : Int)]) rfl ag26 rfl (by repeat (first | exact List.Mem.head _ | refine List.Mem.tail _ ?_)) rfl (fm_at0 encR5 hi (j := 0) (vs := [.int .i64 (t.n : Int), .int .i64 (t.gen : Int)]) at2 (Nat.le_of_ble_eq_true rfl))) ?_
      refine WM_val rfl rfl rfl rfl (R_fieldAddr rfl fa53_0 rfl) ?_
      refine WM_val rfl rfl rfl rfl (R_load rfl sc51 rfl (by repeat (first | exact List.Mem.head _ | refine List.Mem.tail _ ?_)) rfl) ?_
      refine WM_val rfl rfl rfl rfl (R_move rfl rfl) ?_
      refine WM_set (s := 36) (v := .int .i64 (i : Int)) rfl (by rw [fiI_some hfi]) ?_
      refine WM_val rfl rfl rfl rfl (R_indexAddrN rfl Try.underlying51 Try.sizeOf58 rfl rfl (by omega)) ?_
      refine WM_val rfl rfl rfl rfl (R_fieldAddr rfl fa58_1 rfl) ?_
      refine WM_val rfl rfl rfl rfl (R_load (v := .int .i64 t.own) rfl sc3 rfl (by repeat (first | exact List.Mem.head _ | refine List.Mem.tail _ ?_)) (fm_get0 encR5 hi (j := 2) (by omega))) ?_
      refine WM_val rfl rfl rfl rfl (R_fieldAddr rfl fa53_0 rfl) ?_
      refine WM_val rfl rfl rfl rfl (R_load rfl sc51 rfl (by repeat (first | exact List.Mem.head _ | refine List.Mem.tail _ ?_)) rfl) ?_
      refine WM_val rfl rfl rfl rfl (R_move rfl rfl) ?_
      refine WM_set (s := 42) (v := .int .i64 (i : Int)) rfl (by rw [fiI_some hfi]) ?_
      refine WM_val rfl rfl rfl rfl (R_indexAddrN rfl Try.underlying51 Try.sizeOf58 rfl rfl (by omega)) ?_
      refine WM_val rfl rfl rfl rfl (R_fieldAddr rfl fa58_2 rfl) ?_
      refine WM_val rfl rfl rfl rfl (R_load (v := .int .u64 (t.tm : Int)) rfl sc31 rfl (by repeat (first | exact List.Mem.head _ | refine List.Mem.tail _ ?_)) (fm_get0 encR5 hi (j := 3) (by omega))) ?_
      refine WM_val rfl rfl rfl rfl (R_build rfl zv40 pl40 rfl rfl) ?_
      refine WM_do rfl rfl rfl rfl (D_buildSlice rfl si38 rfl rfl rfl) ?_
      rintro _ _ ⟨b4, rfl, rfl⟩
      refine ⟨⟨_, by repeat (first | exact Pulls.nil | exact Pulls.all | (apply Pulls.cons; (repeat (first | exact Pull.head | apply Pull.tail))) | apply Pulls.skip)⟩, ?_⟩
      refine WM_do rfl rfl rfl rfl (D_append rfl si38 rfl (hyb) (by repeat (first | exact Pull.head | apply Pull.tail)) rfl (by repeat (first | exact List.Mem.head _ | refine List.Mem.tail _ ?_)) ((by repeat (first | exact At.nil | refine At.cons ?_ | refine At.succ ?_) : At _ 0 [_, _, _, _])) (rfl) (rfl) (by omega) (by omega)) ?_
      rintro _ _ ⟨ob5, cap5, tl5, rfl, own5, rfl⟩
      refine ⟨⟨_, by repeat (first | exact Pulls.nil | exact Pulls.all | (apply Pulls.cons; (repeat (first | exact Pull.head | apply Pull.tail))) | apply Pulls.skip)⟩, ?_⟩
      rw [show y.d.flatMap encDu ++ [Value.int .i64 (t.n : Int), Value.int .i64 (t.gen : Int), Value.int .i64 t.own, Value.int .u64 (t.tm : Int)] = (y.d ++ [t]).flatMap encDu from by rw [List.flatMap_append]; rfl, show y.d.length + 1 = (y.d ++ [t]).length from by simp] at *
      refine WM_val rfl rfl rfl rfl (R_assign rfl rfl) ?_
      refine WM_nil ?_
      refine WQ_code ?_
      refine WC_region ?_
      refine WL_val rfl rfl rfl (R_fieldAddr rfl fa53_0 rfl) ?_
      refine WL_val rfl rfl rfl (R_load rfl sc51 rfl (by repeat (first | exact List.Mem.head _ | refine List.Mem.tail _ ?_)) rfl) ?_
      refine WL_val rfl rfl rfl (R_move rfl rfl) ?_
      refine WL_set (s := 51) (v := .int .i64 (i : Int)) rfl (by rw [fiI_some hfi]) ?_
      refine WL_val rfl rfl rfl (R_indexAddrN rfl Try.underlying51 Try.sizeOf58 rfl rfl (by omega)) ?_
      refine WL_val rfl rfl rfl (R_fieldAddr rfl fa58_3 rfl) ?_
      refine WL_do0 rfl rfl (D_store (vs := [_]) rfl Try.sizeOf4 rfl rfl rfl rfl rfl (by repeat (first | exact Pull.head | apply Pull.tail)) (by exact fm_room0 encR5 hil (j := 4) (by omega))) ?_
      rintro _ _ rfl
      have hput := fm_put0 encR5 ({ t with gone := true } : Tm) hi (j := 4) (vs := [.bool true]) (by simp) rfl (tl := y.t)
      rw [hput]
      refine WL_nil ?_
      refine WQ_code ?_
      refine WC_region ?_
      rw [show y.L.length = (y.L.set i { t with gone := true }).length from List.length_set.symm]
      refine WL_val rfl rfl rfl (R_loadA (vs := [_]) rfl ag53 rfl (by repeat (first | exact List.Mem.head _ | refine List.Mem.tail _ ?_)) rfl (by repeat (first | exact At.nil | refine At.cons ?_ | refine At.succ ?_))) ?_
      refine WL_do rfl rfl rfl (D_call (rfirst_ok (y.L.set i { t with gone := true }) (some bq) y.c y.t (by rw [List.length_set]; exact (hbq ▸ hyo).like (by simp only [fm_length encR5, List.length_set])) (by rw [List.length_set]; omega)) rfl rfl rfl rfl (by repeat (first | exact Pulls.nil | exact Pulls.all | (apply Pulls.cons; (repeat (first | exact Pull.head | apply Pull.tail))) | apply Pulls.skip))) ?_
      rintro _ _ ⟨_, ⟨rfl, rfl⟩, rfl⟩
      refine WL_val rfl rfl rfl (R_assign rfl rfl) ?_
      refine WL_nil ?_
      refine WQ_nextF (⟨y.L.set i { t with gone := true }, some bq, y.c, y.t, y.d ++ [t], ob5, cap5, tl5⟩) (⟨hset ▸ hyr.rm _, by dsimp only; rw [List.length_set]; exact hyl, (by dsimp only; rw [List.length_set]; exact (hbq ▸ hyo).like (by simp only [fm_length encR5, List.length_set])), own5, by dsimp only; rw [← hset, List.length_append, List.length_singleton]; omega, by dsimp only; rw [hye, hexp, ← hset, List.append_assoc]; rfl⟩) (by dsimp only; rw [← hset]; omega) (Le.lq (by repeat (first | exact Le.nil | refine Le.cons rfl (by first | rfl | (congr 1; omega)) ?_))) (by repeat (first | exact Pushed.refl | refine Pushed.push rfl ?_)) rfl (by repeat (first | exact Pulls.nil | exact Pulls.all | (apply Pulls.cons; (repeat (first | exact Pull.head | apply Pull.tail))) | apply Pulls.skip))
    · have hps : ¬ (t.tm ≠ 18446744073709551615 ∧ now ≠ 18446744073709551615 ∧ t.tm ≤ now) := c2
      have hfin : xL now y.L = (y.L, []) := by unfold xL; split; rfl; exact eL_gt hfi (by omega)
      rw [hfin] at hye
      rw [← hbq]
      refine WC_exit ?_
      refine WQ_code ?_
      refine WC_seq ?_
      refine WC_region ?_
      refine WL_val rfl rfl rfl (R_loadA (vs := [_]) rfl ag53 rfl (by repeat (first | exact List.Mem.head _ | refine List.Mem.tail _ ?_)) rfl (by repeat (first | exact At.nil | refine At.cons ?_ | refine At.succ ?_))) ?_
      refine WL_val rfl rfl rfl (R_move rfl rfl) ?_
      refine WL_do0 rfl rfl (D_store (vs := [_]) rfl Try.sizeOf53 rfl rfl rfl rfl rfl (by repeat (first | exact Pull.head | apply Pull.tail)) (by exact Nat.le_of_ble_eq_true rfl)) ?_
      rintro _ _ rfl
      refine WL_val rfl rfl rfl (R_assign rfl rfl) ?_
      refine WL_nil ?_
      refine WQ_code ?_
      refine WC_ret ?_
      refine WQ_ret rfl rfl (.cons (.cell (vs := [_]) rfl ag53 (by repeat (first | exact List.Mem.head _ | refine List.Mem.tail _ ?_)) rfl (by repeat (first | exact At.nil | refine At.cons ?_ | refine At.succ ?_))) (.cons (.tmp rfl) .nil)) rfl (by
          rw [hye, List.append_nil]
          exact ⟨y.o, y.c, y.t, y.ob, y.cb, y.tb, rfl, hyo, hyb, rfl⟩) (by repeat (first | exact Pulls.nil | exact Pulls.all | (apply Pulls.cons; (repeat (first | exact Pull.head | apply Pull.tail))) | apply Pulls.skip))
  · have hf0 : fstP y.L = none := by cases hf : fstP y.L with | none => rfl | some z => obtain ⟨i, t⟩ := z; rw [fiI_some hf] at c1; omega
    have hfin : xL now y.L = (y.L, []) := by unfold xL; split; rfl; exact eL_none hf0
    rw [hfin] at hye
    refine WL_skip rfl rfl rfl ?_
    refine WL_skip rfl rfl rfl ?_
    refine WL_skip rfl rfl rfl ?_
    refine WL_skip rfl rfl rfl ?_
    refine WL_skip rfl rfl rfl ?_
    refine WL_skip rfl rfl rfl ?_
    refine WL_skip rfl rfl rfl ?_
    refine WL_skip rfl rfl rfl ?_
    refine WL_val rfl rfl rfl (R_pickF rfl rfl rfl) ?_
    refine WL_nil ?_
    refine WQ_code ?_
    refine WC_F rfl ?_
    refine WC_exit ?_
    refine WQ_code ?_
    refine WC_seq ?_
    refine WC_region ?_
    refine WL_val rfl rfl rfl (R_loadA (vs := [_]) rfl ag53 rfl (by repeat (first | exact List.Mem.head _ | refine List.Mem.tail _ ?_)) rfl (by repeat (first | exact At.nil | refine At.cons ?_ | refine At.succ ?_))) ?_
    refine WL_val rfl rfl rfl (R_move rfl rfl) ?_
    refine WL_do0 rfl rfl (D_store (vs := [_]) rfl Try.sizeOf53 rfl rfl rfl rfl rfl (by repeat (first | exact Pull.head | apply Pull.tail)) (by exact Nat.le_of_ble_eq_true rfl)) ?_
    rintro _ _ rfl
    refine WL_val rfl rfl rfl (R_assign rfl rfl) ?_
    refine WL_nil ?_
    refine WQ_code ?_
    refine WC_ret ?_
    refine WQ_ret rfl rfl (.cons (.cell (vs := [_]) rfl ag53 (by repeat (first | exact List.Mem.head _ | refine List.Mem.tail _ ?_)) rfl (by repeat (first | exact At.nil | refine At.cons ?_ | refine At.succ ?_))) (.cons (.tmp rfl) .nil)) rfl (by
        rw [hye, List.append_nil]
        exact ⟨y.o, y.c, y.t, y.ob, y.cb, y.tb, rfl, hyo, hyb, rfl⟩) (by repeat (first | exact Pulls.nil | exact Pulls.all | (apply Pulls.cons; (repeat (first | exact Pull.head | apply Pull.tail))) | apply Pulls.skip))
theorem rnext_ok (L : List Tm) (or_ : Option Nat) (cr : Nat) (tr : List Value) (ho : Own or_ L.length cr 5 (L.flatMap encR) tr) (hl : L.length ≤ 100000) : Spec Try.prog 22 [.agg #[slV or_ L.length cr]] [⟨or_, cl (L.flatMap encR ++ tr) 58⟩] (fun r H' => r = .int .u64 (nxtL L : Int) ∧ H' = [⟨or_, cl (L.flatMap encR ++ tr) 58⟩]) := by
  cases hf : fstP L with
  | none =>
    have hn : nxtL L = 18446744073709551615 := by rw [nxtL, hf]
    have hfi := fiI_none hf
    rw [hn]
    refine Spec.of (E := [(0, .agg #[slV or_ L.length cr])]) Try.func22 rfl (by kernel_rfl) Try.ntmps22 rfl rfl (fun w => ?_)
    refine WC_seq ?_
    refine WC_region ?_
    refine WL_do rfl rfl rfl (D_box (cs := [_]) rfl rfl rfl) ?_
    rintro _ _ ⟨b1, rfl, rfl⟩
    refine WL_val rfl rfl rfl (R_assign rfl rfl) ?_
    refine WL_nil ?_
    refine WQ_code ?_
    refine WC_seq ?_
    refine WC_seq ?_
    refine WC_region ?_
    refine WL_val rfl rfl rfl (R_loadA (vs := [_]) rfl ag53 rfl (by repeat (first | exact List.Mem.head _ | refine List.Mem.tail _ ?_)) rfl (by repeat (first | exact At.nil | refine At.cons ?_ | refine At.succ ?_))) ?_
    refine WL_do rfl rfl rfl (D_call (rfirst_ok L or_ cr tr ho hl) rfl rfl rfl rfl (by repeat (first | exact Pulls.nil | exact Pulls.all | (apply Pulls.cons; (repeat (first | exact Pull.head | apply Pull.tail))) | apply Pulls.skip))) ?_
    rintro _ _ ⟨_, ⟨rfl, rfl⟩, rfl⟩
    refine WL_val rfl rfl rfl (R_lss rfl rfl rfl) ?_
    refine WL_nil ?_
    refine WQ_code ?_
    refine WC_dT rfl (by rw [hfi]; decide) ?_
    refine WC_seq ?_
    refine WC_region ?_
    refine WL_val rfl rfl rfl (R_assign rfl rfl) ?_
    refine WL_nil ?_
    refine WQ_code ?_
    refine WC_ret ?_
    refine WQ_ret rfl rfl (.cons (.tmp rfl) .nil) rfl (by
        exact ⟨rfl, rfl⟩) (by repeat (first | exact Pulls.nil | exact Pulls.all | (apply Pulls.cons; (repeat (first | exact Pull.head | apply Pull.tail))) | apply Pulls.skip))
  | some z =>
    obtain ⟨i, t⟩ := z
    have hn : nxtL L = t.tm := by rw [nxtL, hf]
    have hfi := fiI_some hf
    have hi := (fstP_some hf).at_
    have hil := (List.getElem?_eq_some_iff.1 hi).1
    obtain ⟨b0, hb0⟩ := ho.some_of (by omega)
    subst hb0
    rw [hn]
    refine Spec.of (E := [(0, .agg #[slV (some b0) L.length cr])]) Try.func22 rfl (by kernel_rfl) Try.ntmps22 rfl rfl (fun w => ?_)
    refine WC_seq ?_
    refine WC_region ?_
    refine WL_do rfl rfl rfl (D_box (cs := [_]) rfl rfl rfl) ?_
    rintro _ _ ⟨b1, rfl, rfl⟩
    refine WL_val rfl rfl rfl (R_assign rfl rfl) ?_
    refine WL_nil ?_
    refine WQ_code ?_
    refine WC_seq ?_
    refine WC_seq ?_
    refine WC_region ?_
    refine WL_val rfl rfl rfl (R_loadA (vs := [_]) rfl ag53 rfl (by repeat (first | exact List.Mem.head _ | refine List.Mem.tail _ ?_)) rfl (by repeat (first | exact At.nil | refine At.cons ?_ | refine At.succ ?_))) ?_
    refine WL_do rfl rfl rfl (D_call (rfirst_ok L (some b0) cr tr ho hl) rfl rfl rfl rfl (by repeat (first | exact Pulls.nil | exact Pulls.all | (apply Pulls.cons; (repeat (first | exact Pull.head | apply Pull.tail))) | apply Pulls.skip))) ?_
    rintro _ _ ⟨_, ⟨rfl, rfl⟩, rfl⟩
    refine WL_val rfl rfl rfl (R_lss rfl rfl rfl) ?_
    refine WL_nil ?_
    refine WQ_code ?_
    refine WC_dF rfl (by rw [hfi]; omega) ?_
    refine WC_skip ?_
    refine WQ_code ?_
    refine WC_seq ?_
    refine WC_draw _ [(0, true), (1, true), (2, true), (3, true), (4, true), (5, true), (6, true), (7, true)] followsMixed rfl rfl (by kernel_rfl) .all ?_
    refine WM_val rfl rfl rfl rfl (R_fieldAddr rfl fa53_0 rfl) ?_
    refine WM_val rfl rfl rfl rfl (R_load rfl sc51 rfl (by repeat (first | exact List.Mem.head _ | refine List.Mem.tail _ ?_)) rfl) ?_
    refine WM_val rfl rfl rfl rfl (R_loadA (vs := [_]) rfl ag53 rfl (by repeat (first | exact List.Mem.head _ | refine List.Mem.tail _ ?_)) rfl (by repeat (first | exact At.nil | refine At.cons ?_ | refine At.succ ?_))) ?_
    refine WM_call rfl (Spec.quiet (rfirst_ok L (some b0) cr tr ho hl)) rfl rfl rfl rfl rfl rfl rfl (by repeat (first | exact Pulls.nil | exact Pulls.all | (apply Pulls.cons; (repeat (first | exact Pull.head | apply Pull.tail))) | apply Pulls.skip)) ?_
    refine WM_set (s := 9) (v := .int .i64 (i : Int)) rfl (by rw [hfi]) ?_
    refine WM_val rfl rfl rfl rfl (R_indexAddrN rfl Try.underlying51 Try.sizeOf58 rfl rfl (by omega)) ?_
    refine WM_val rfl rfl rfl rfl (R_fieldAddr rfl fa58_2 rfl) ?_
    refine WM_val rfl rfl rfl rfl (R_load (v := .int .u64 (t.tm : Int)) rfl sc31 rfl (by repeat (first | exact List.Mem.head _ | refine List.Mem.tail _ ?_)) (fm_get0 encR5 hi (j := 3) (by omega))) ?_
    refine WM_val rfl rfl rfl rfl (R_assign rfl rfl) ?_
    refine WM_nil ?_
    refine WQ_code ?_
    refine WC_ret ?_
    refine WQ_ret rfl rfl (.cons (.tmp rfl) .nil) rfl (by
        exact ⟨rfl, rfl⟩) (by repeat (first | exact Pulls.nil | exact Pulls.all | (apply Pulls.cons; (repeat (first | exact Pull.head | apply Pull.tail))) | apply Pulls.skip))

end Go.Proofs.Ytbaagjiailmlhaa
