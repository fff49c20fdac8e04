/-
  Chapter 07 (slot), part RefC: contracts of functions that the laws call, each for the heap it names.
-/
import Derived.Test.YtnolalkkdigcbaaRows
import Derived.Test.YtnolalkkdigcbaaSLArr
import Derived.Test.YtnolalkkdigcbaaTab
import Derived.Test.YtnolalkkdigcbaaRefB
set_option linter.unusedVariables false
set_option maxRecDepth 20000
set_option maxHeartbeats 1000000
namespace Go.Proofs.Ytnolalkkdigcbaa


def cntTo (W : List Fl) (n : Int) : Nat → Nat
  | 0 => 0
  | k + 1 => cntTo W n k + (match W[k]? with | some y => if y.n = n then 1 else 0 | none => 0)
abbrev cnt (W : List Fl) (n : Int) : Nat := cntTo W n W.length
theorem cntTo_succ {W : List Fl} {n : Int} {k : Nat} {y : Fl} (h : W[k]? = some y) : cntTo W n (k + 1) = cntTo W n k + if y.n = n then 1 else 0 := by simp [cntTo, h]
theorem cntTo_le (W : List Fl) (n : Int) : ∀ k, cntTo W n k ≤ k
  | 0 => Nat.le_refl _
  | k + 1 => by
    have := cntTo_le W n k
    simp only [cntTo]
    split
    · split <;> omega
    · omega
def CntIs (W : List Fl) (n : Int) (k c : Nat) : Prop := c = cntTo W n k ∧ c ≤ k
theorem CntIs.up {W : List Fl} {n : Int} {k c : Nat} {y : Fl} (h : CntIs W n k c) (hy : W[k]? = some y) (e : y.n = n) : CntIs W n (k + 1) (c + 1) := by
  refine ⟨?_, Nat.succ_le_succ h.2⟩
  rw [cntTo_succ hy, if_pos e, h.1]
theorem CntIs.same {W : List Fl} {n : Int} {k c : Nat} {y : Fl} (h : CntIs W n k c) (hy : W[k]? = some y) (e : ¬ y.n = n) : CntIs W n (k + 1) c := by
  refine ⟨?_, Nat.le_succ_of_le h.2⟩
  rw [cntTo_succ hy, if_neg e, h.1]; rfl
theorem rat_split (m : Int) (ob : Option Nat) (cw : Nat) (W : List Fl) (tw : List Value) (hown : Own ob W.length cw 4 (W.flatMap encL) tw) (k i : Nat) (hki : k ≤ i) (hpre : ∀ k, k < i → ∃ j x, Open1 W (k : Int) j x) (hno : NoOpen W (i : Int)) : Spec Try.prog 31 [refV m ob W.length cw, .int .i64 (k : Int)] [⟨ob, cl (W.flatMap encL ++ tw) 44⟩]
    (fun r H' => ∃ v, r = .int .i64 v ∧ H' = [⟨ob, cl (W.flatMap encL ++ tw) 44⟩] ∧ ((k < i ∧ 0 ≤ v) ∨ (k = i ∧ v < 0))) := by
  by_cases h : k < i
  · obtain ⟨j, x, hx⟩ := hpre k h
    exact (rat_yes m ob cw W tw hown k j x hx).mono fun r H' ⟨h1, h2⟩ => ⟨(j : Int), h1, h2, .inl ⟨h, by omega⟩⟩
  · obtain rfl : k = i := by omega
    exact (rat_no m ob cw W tw hown k hno).mono fun r H' ⟨h1, h2⟩ => ⟨-1, h1, h2, .inr ⟨rfl, by omega⟩⟩
theorem ropen_at (m : Int) (ob : Option Nat) (cw : Nat) (W : List Fl) (tw : List Value) (hown : Own ob W.length cw 4 (W.flatMap encL) tw) (hlen : W.length ≤ 1000) (v : Int) (i : Nat) (hi : (i : Int) < m) (hm : m ≤ 128) (hpre : ∀ k, k < i → ∃ j x, Open1 W (k : Int) j x) (hno : NoOpen W (i : Int)) : Spec Try.prog 26 [refV m ob W.length cw, .int .i64 v] [⟨ob, cl (W.flatMap encL ++ tw) 44⟩]
    (fun r H' => ∃ V, r = .tuple #[V, fdV i (cnt W i : Int), .int .i64 0] ∧ NewL H' m V (W ++ [⟨i, cnt W i, v, false⟩])) := by
  refine Spec.of (E := [(0, refV m ob W.length cw), (1, .int .i64 v)]) Try.func26 rfl (by kernel_rfl) Try.ntmps26 rfl rfl (fun w => ?_)
  refine WC_seq ?_
  refine WC_region ?_
  refine WL_do rfl rfl rfl (D_box (cs := [_, _]) rfl rfl rfl) ?_
  rintro _ _ ⟨b1, rfl, rfl⟩
  refine WL_do rfl rfl rfl (D_alloc rfl zv30) ?_
  rintro _ _ ⟨b2, rfl, rfl⟩
  refine WL_do rfl rfl rfl (D_alloc rfl zv34) ?_
  rintro _ _ ⟨b3, rfl, rfl⟩
  refine WL_val rfl rfl rfl (R_assign rfl rfl) ?_
  refine WL_nil ?_
  refine WQ_code ?_
  refine WC_seq ?_
  refine WC_seq ?_
  refine WC_region ?_
  refine WL_val rfl rfl rfl (R_assign rfl rfl) ?_
  refine WL_nil ?_
  refine WQ_code ?_
  refine WC_block ?_
  refine WC_loopF (G := Nat) [6, 7, 8, 9, 10, 11, 12, 13, 14, 15, 16, 17, 18, 19, 20, 21, 22, 23, 24, 25, 26, 27, 28, 29, 30, 31, 32, 33, 34, 35, 36, 37, 38, 39, 40, 41, 42, 43, 44, 45, 46, 47, 48, 49, 50, 51, 52, 53, 54] (fun k => k ≤ i) (fun k => [(7, .int .i64 (k : Int))]) (fun k => []) (fun k => i - k) (0) (Nat.zero_le _) (Le.lq (by repeat (first | exact Le.nil | refine Le.cons rfl (by first | rfl | (congr 1; omega)) ?_))) (by repeat (first | exact Pulls.nil | exact Pulls.all | (apply Pulls.cons; (repeat (first | exact Pull.head | apply Pull.tail))) | apply Pulls.skip)) ?_
  rintro k hk
  refine WC_seq ?_
  refine WC_seq ?_
  refine WC_region ?_
  refine WL_val rfl rfl rfl (R_move rfl rfl) ?_
  refine WL_val rfl rfl rfl (R_fieldAddr rfl fa30_0 rfl) ?_
  refine WL_val rfl rfl rfl (R_load rfl sc3 rfl (by repeat (first | exact List.Mem.head _ | refine List.Mem.tail _ ?_)) rfl) ?_
  refine WL_val rfl rfl rfl (R_lss rfl rfl rfl) ?_
  refine WL_nil ?_
  refine WQ_code ?_
  refine WC_dT rfl (by omega) ?_
  refine WC_skip ?_
  refine WQ_code ?_
  refine WC_seq ?_
  refine WC_block ?_
  refine WC_seq ?_
  refine WC_seq ?_
  refine WC_region ?_
  refine WL_val rfl rfl rfl (R_loadA (vs := [_, _]) rfl ag30 rfl (by repeat (first | exact List.Mem.head _ | refine List.Mem.tail _ ?_)) rfl (by repeat (first | exact At.nil | refine At.cons ?_ | refine At.succ ?_))) ?_
  refine WL_val rfl rfl rfl (R_move rfl rfl) ?_
  refine WL_do rfl rfl rfl (D_call (rat_split m ob cw W tw hown k i hk hpre hno) rfl rfl rfl rfl (by repeat (first | exact Pulls.nil | exact Pulls.all | (apply Pulls.cons; (repeat (first | exact Pull.head | apply Pull.tail))) | apply Pulls.skip))) ?_
  rintro _ _ ⟨_, ⟨z, rfl, rfl, hz⟩, rfl⟩
  refine WL_val rfl rfl rfl (R_geq rfl rfl rfl) ?_
  refine WL_nil ?_
  refine WQ_code ?_
  refine WC_dec rfl (fun c1 => ?_) (fun c1 => ?_)
  · refine WC_exit ?_
    refine WQ_code ?_
    refine WC_region ?_
    refine WL_val rfl rfl rfl (R_move rfl rfl) ?_
    refine WL_val rfl rfl rfl (R_add rfl rfl rfl (by omega)) ?_
    refine WL_val rfl rfl rfl (R_assign rfl rfl) ?_
    refine WL_nil ?_
    refine WQ_nextF (k + 1) (by omega) (by omega) (Le.lq (by repeat (first | exact Le.nil | refine Le.cons rfl (by first | rfl | (congr 1; omega)) ?_))) (by repeat (first | exact Pushed.refl | refine Pushed.push rfl ?_)) rfl (by repeat (first | exact Pulls.nil | exact Pulls.all | (apply Pulls.cons; (repeat (first | exact Pull.head | apply Pull.tail))) | apply Pulls.skip))
  · obtain rfl : k = i := by omega
    refine WC_skip ?_
    refine WQ_code ?_
    refine WC_seq ?_
    refine WC_region ?_
    refine WL_val rfl rfl rfl (R_assign rfl rfl) ?_
    refine WL_nil ?_
    refine WQ_code ?_
    refine WC_seq ?_
    refine WC_seq ?_
    refine WC_region ?_
    refine WL_val rfl rfl rfl (R_assign rfl rfl) ?_
    refine WL_nil ?_
    refine WQ_code ?_
    refine WC_block ?_
    refine WC_loopF (G := Nat × Nat) [8, 9, 22, 23, 24, 25, 26, 27, 28, 29, 30, 31, 32, 33, 34, 35, 36, 37, 38, 39] (fun g => g.1 ≤ W.length ∧ CntIs W (k : Int) g.1 g.2) (fun g => [(9, .int .i64 (g.1 : Int)), (8, .int .i64 (g.2 : Int))]) (fun g => []) (fun g => W.length - g.1) ((0, 0)) (⟨Nat.zero_le _, rfl, Nat.zero_le _⟩) (Le.lq (by repeat (first | exact Le.nil | refine Le.cons rfl (by first | rfl | (congr 1; omega)) ?_))) (by repeat (first | exact Pulls.nil | exact Pulls.all | (apply Pulls.cons; (repeat (first | exact Pull.head | apply Pull.tail))) | apply Pulls.skip)) ?_
    rintro g ⟨hx, hc⟩
    refine WC_seq ?_
    refine WC_seq ?_
    refine WC_region ?_
    refine WL_val rfl rfl rfl (R_move rfl rfl) ?_
    refine WL_val rfl rfl rfl (R_fieldAddr rfl fa30_1 rfl) ?_
    refine WL_val rfl rfl rfl (R_load rfl sc28 rfl (by repeat (first | exact List.Mem.head _ | refine List.Mem.tail _ ?_)) rfl) ?_
    refine WL_val rfl rfl rfl (R_len rfl Try.underlying28 rfl) ?_
    refine WL_val rfl rfl rfl (R_lss rfl rfl rfl) ?_
    refine WL_nil ?_
    refine WQ_code ?_
    refine WC_dec rfl (fun c2 => ?_) (fun c2 => ?_)
    · refine WC_skip ?_
      refine WQ_code ?_
      refine WC_seq ?_
      refine WC_block ?_
      refine WC_seq ?_
      refine WC_region ?_
      refine WL_val rfl rfl rfl (R_fieldAddr rfl fa30_1 rfl) ?_
      refine WL_val rfl rfl rfl (R_load rfl sc28 rfl (by repeat (first | exact List.Mem.head _ | refine List.Mem.tail _ ?_)) rfl) ?_
      refine WL_val rfl rfl rfl (R_move rfl rfl) ?_
      obtain ⟨y, hy⟩ := exE (T := W) (i := g.1) (by omega)
      obtain ⟨wb, rfl⟩ := hown.some_of (by omega)
      refine WL_val rfl rfl rfl (R_indexAddrN rfl Try.underlying28 Try.sizeOf44 rfl rfl (by omega)) ?_
      refine WL_val rfl rfl rfl (R_fieldAddr rfl fa44_0 rfl) ?_
      refine WL_val rfl rfl rfl (R_fieldAddr rfl fa34_0 rfl) ?_
      refine WL_val rfl rfl rfl (R_load (v := .int .i64 y.n) rfl sc3 rfl (by repeat (first | exact List.Mem.head _ | refine List.Mem.tail _ ?_)) (fm_get0 encL4 hy (by omega))) ?_
      refine WL_val rfl rfl rfl (R_move rfl rfl) ?_
      refine WL_val rfl rfl rfl (R_eql rfl rfl rfl) ?_
      refine WL_nil ?_
      refine WQ_code ?_
      refine WC_dec rfl (fun c3 => ?_) (fun c3 => ?_)
      · refine WC_region ?_
        refine WL_val rfl rfl rfl (R_move rfl rfl) ?_
        have hcl := hc.2
        refine WL_val rfl rfl rfl (R_add rfl rfl rfl (by omega)) ?_
        refine WL_val rfl rfl rfl (R_assign rfl rfl) ?_
        refine WL_nil ?_
        refine WQ_code ?_
        refine WC_region ?_
        refine WL_val rfl rfl rfl (R_move rfl rfl) ?_
        refine WL_val rfl rfl rfl (R_add rfl rfl rfl (by omega)) ?_
        refine WL_val rfl rfl rfl (R_assign rfl rfl) ?_
        refine WL_nil ?_
        refine WQ_nextF ((g.1 + 1, g.2 + 1)) (⟨by dsimp only; omega, hc.up hy (by omega)⟩) (by dsimp only; omega) (Le.lq (by repeat (first | exact Le.nil | refine Le.cons rfl (by first | rfl | (congr 1; omega)) ?_))) (by repeat (first | exact Pushed.refl | refine Pushed.push rfl ?_)) rfl (by repeat (first | exact Pulls.nil | exact Pulls.all | (apply Pulls.cons; (repeat (first | exact Pull.head | apply Pull.tail))) | apply Pulls.skip))
      · refine WC_skip ?_
        refine WQ_code ?_
        refine WC_region ?_
        refine WL_val rfl rfl rfl (R_move rfl rfl) ?_
        refine WL_val rfl rfl rfl (R_add rfl rfl rfl (by omega)) ?_
        refine WL_val rfl rfl rfl (R_assign rfl rfl) ?_
        refine WL_nil ?_
        refine WQ_nextF ((g.1 + 1, g.2)) (⟨by dsimp only; omega, hc.same hy (by omega)⟩) (by dsimp only; omega) (Le.lq (by repeat (first | exact Le.nil | refine Le.cons rfl (by first | rfl | (congr 1; omega)) ?_))) (by repeat (first | exact Pushed.refl | refine Pushed.push rfl ?_)) rfl (by repeat (first | exact Pulls.nil | exact Pulls.all | (apply Pulls.cons; (repeat (first | exact Pull.head | apply Pull.tail))) | apply Pulls.skip))
    · have e9 : g.1 = W.length := by omega
      have e8 : g.2 = cnt W (k : Int) := by rw [hc.1, e9]
      rw [e8]
      refine WC_exit ?_
      refine WQ_code ?_
      refine WC_seq ?_
      refine WC_region ?_
      refine WL_val rfl rfl rfl (R_loadA (vs := [_, _]) rfl ag30 rfl (by repeat (first | exact List.Mem.head _ | refine List.Mem.tail _ ?_)) rfl (by repeat (first | exact At.nil | refine At.cons ?_ | refine At.succ ?_))) ?_
      refine WL_do rfl rfl rfl (D_call (rcopy_ok m ob cw W tw hown hlen) rfl rfl rfl rfl (by repeat (first | exact Pulls.nil | exact Pulls.all | (apply Pulls.cons; (repeat (first | exact Pull.head | apply Pull.tail))) | apply Pulls.skip))) ?_
      rintro _ _ ⟨_, ⟨ob2, c2, tw2, rfl, own2, rfl⟩, rfl⟩
      refine WL_do rfl rfl rfl (D_alloc rfl zv30) ?_
      rintro _ _ ⟨b4, rfl, rfl⟩
      refine WL_do0 rfl rfl (D_store (vs := [_, _]) rfl Try.sizeOf30 rfl rfl rfl rfl rfl (by repeat (first | exact Pull.head | apply Pull.tail)) (by exact Nat.le_of_ble_eq_true rfl)) ?_
      rintro _ _ rfl
      refine WL_nil ?_
      refine WQ_code ?_
      refine WC_seq ?_
      refine WC_region ?_
      refine WL_val rfl rfl rfl (R_move rfl rfl) ?_
      refine WL_val rfl rfl rfl (R_move rfl rfl) ?_
      refine WL_val rfl rfl rfl (R_build rfl zv34 pl34 rfl rfl) ?_
      refine WL_do rfl rfl rfl (D_alloc rfl zv34) ?_
      rintro _ _ ⟨b5, rfl, rfl⟩
      refine WL_do0 rfl rfl (D_store (vs := [_, _]) rfl Try.sizeOf34 rfl rfl rfl rfl rfl (by repeat (first | exact Pull.head | apply Pull.tail)) (by exact Nat.le_of_ble_eq_true rfl)) ?_
      rintro _ _ rfl
      refine WL_nil ?_
      refine WQ_code ?_
      refine WC_seq ?_
      refine WC_region ?_
      refine WL_val rfl rfl rfl (R_fieldAddr rfl fa30_1 rfl) ?_
      refine WL_val rfl rfl rfl (R_load rfl sc28 rfl (by repeat (first | exact List.Mem.head _ | refine List.Mem.tail _ ?_)) rfl) ?_
      refine WL_val rfl rfl rfl (R_loadA (vs := [_, _]) rfl ag34 rfl (by repeat (first | exact List.Mem.head _ | refine List.Mem.tail _ ?_)) rfl (by repeat (first | exact At.nil | refine At.cons ?_ | refine At.succ ?_))) ?_
      refine WL_val rfl rfl rfl (R_move rfl rfl) ?_
      refine WL_val rfl rfl rfl (R_build rfl zv44 pl44 rfl rfl) ?_
      refine WL_do rfl rfl rfl (D_buildSlice rfl si28 rfl rfl rfl) ?_
      rintro _ _ ⟨b6, rfl, rfl⟩
      refine WL_do rfl rfl rfl (D_append rfl si28 rfl (own2) (by repeat (first | exact Pull.head | apply Pull.tail)) rfl (by repeat (first | exact List.Mem.head _ | refine List.Mem.tail _ ?_)) ((by repeat (first | exact At.nil | refine At.cons ?_ | refine At.succ ?_) : At _ 0 [_, _, _, _])) (rfl) (rfl) (by omega) (by omega)) ?_
      rintro _ _ ⟨ob7, cap7, tl7, rfl, own7, rfl⟩
      have hsn : W.flatMap encL ++ [Value.int .i64 (k : Int), .int .i64 (cnt W (k : Int) : Int), .int .i64 v, .bool false] = (W ++ ([⟨(k : Int), ((cnt W (k : Int) : Nat) : Int), v, false⟩] : List Fl)).flatMap encL := by simp [encL]
      rw [hsn] at own7 ⊢
      refine WL_val rfl rfl rfl (R_fieldAddr rfl fa30_1 rfl) ?_
      refine WL_do0 rfl rfl (D_store (vs := [_]) rfl Try.sizeOf28 rfl rfl rfl rfl rfl (by repeat (first | exact Pull.head | apply Pull.tail)) (by exact Nat.le_of_ble_eq_true rfl)) ?_
      rintro _ _ rfl
      refine WL_nil ?_
      refine WQ_code ?_
      refine WC_seq ?_
      refine WC_draw ([⟨some b4, cl [.int .i64 m, slV ob7 (W.length + 1) cap7] 30⟩, ⟨some b5, cl [.int .i64 (k : Int), .int .i64 (cnt W (k : Int) : Int)] 34⟩]) [(0, true), (1, true), (2, false), (3, false), (4, true)] followsMixed rfl rfl (by kernel_rfl) (by repeat (first | exact Pulls.nil | exact Pulls.all | (apply Pulls.cons; (repeat (first | exact Pull.head | apply Pull.tail))) | apply Pulls.skip)) ?_
      refine WM_val rfl rfl rfl rfl (R_loadA (vs := [_, _]) rfl ag30 rfl (by repeat (first | exact List.Mem.head _ | refine List.Mem.tail _ ?_)) rfl (by repeat (first | exact At.nil | refine At.cons ?_ | refine At.succ ?_))) ?_
      refine WM_val rfl rfl rfl rfl (R_loadA (vs := [_, _]) rfl ag34 rfl (by repeat (first | exact List.Mem.head _ | refine List.Mem.tail _ ?_)) rfl (by repeat (first | exact At.nil | refine At.cons ?_ | refine At.succ ?_))) ?_
      refine WM_do0 rfl rfl rfl (D_store (vs := [_, _]) rfl Try.sizeOf30 rfl rfl rfl rfl rfl (by repeat (first | exact Pull.head | apply Pull.tail)) (by exact Nat.le_of_ble_eq_true rfl)) ?_
      rintro _ _ rfl
      refine ⟨⟨_, by repeat (first | exact Pulls.nil | exact Pulls.all | (apply Pulls.cons; (repeat (first | exact Pull.head | apply Pull.tail))) | apply Pulls.skip)⟩, ?_⟩
      refine WM_do0 rfl rfl rfl (D_store (vs := [_, _]) rfl Try.sizeOf34 rfl rfl rfl rfl rfl (by repeat (first | exact Pull.head | apply Pull.tail)) (by exact Nat.le_of_ble_eq_true rfl)) ?_
      rintro _ _ rfl
      refine ⟨⟨_, by repeat (first | exact Pulls.nil | exact Pulls.all | (apply Pulls.cons; (repeat (first | exact Pull.head | apply Pull.tail))) | apply Pulls.skip)⟩, ?_⟩
      refine WM_val rfl rfl rfl rfl (R_assign rfl rfl) ?_
      refine WM_nil ?_
      refine WQ_code ?_
      refine WC_ret ?_
      refine WQ_ret rfl rfl (.cons (.cell (vs := [_, _]) rfl ag30 (by repeat (first | exact List.Mem.head _ | refine List.Mem.tail _ ?_)) rfl (by repeat (first | exact At.nil | refine At.cons ?_ | refine At.succ ?_))) (.cons (.cell (vs := [_, _]) rfl ag34 (by repeat (first | exact List.Mem.head _ | refine List.Mem.tail _ ?_)) rfl (by repeat (first | exact At.nil | refine At.cons ?_ | refine At.succ ?_))) (.cons (.tmp rfl) .nil))) rfl (by
          exact ⟨_, rfl, ob7, cap7, tl7, by rw [List.length_append]; rfl, by rw [List.length_append]; exact own7, rfl⟩) (by repeat (first | exact Pulls.nil | exact Pulls.all | (apply Pulls.cons; (repeat (first | exact Pull.head | apply Pull.tail))) | apply Pulls.skip))
theorem ropen_full (m : Int) (ob : Option Nat) (cw : Nat) (W : List Fl) (tw : List Value) (hown : Own ob W.length cw 4 (W.flatMap encL) tw) (v : Int) (hm0 : 0 ≤ m) (hm : m ≤ 128) (hall : ∀ k : Nat, (k : Int) < m → ∃ j x, Open1 W (k : Int) j x) : Spec Try.prog 26 [refV m ob W.length cw, .int .i64 v] [⟨ob, cl (W.flatMap encL ++ tw) 44⟩]
    (fun r H' => r = .tuple #[refV m ob W.length cw, fdV 0 0, .int .i64 7] ∧ H' = [⟨ob, cl (W.flatMap encL ++ tw) 44⟩]) := by
  refine Spec.of (E := [(0, refV m ob W.length cw), (1, .int .i64 v)]) Try.func26 rfl (by kernel_rfl) Try.ntmps26 rfl rfl (fun w => ?_)
  refine WC_seq ?_
  refine WC_region ?_
  refine WL_do rfl rfl rfl (D_box (cs := [_, _]) rfl rfl rfl) ?_
  rintro _ _ ⟨b1, rfl, rfl⟩
  refine WL_do rfl rfl rfl (D_alloc rfl zv30) ?_
  rintro _ _ ⟨b2, rfl, rfl⟩
  refine WL_do rfl rfl rfl (D_alloc rfl zv34) ?_
  rintro _ _ ⟨b3, rfl, rfl⟩
  refine WL_val rfl rfl rfl (R_assign rfl rfl) ?_
  refine WL_nil ?_
  refine WQ_code ?_
  refine WC_seq ?_
  refine WC_seq ?_
  refine WC_region ?_
  refine WL_val rfl rfl rfl (R_assign rfl rfl) ?_
  refine WL_nil ?_
  refine WQ_code ?_
  refine WC_block ?_
  refine WC_loopF (G := Nat) [6, 7, 8, 9, 10, 11, 12, 13, 14, 15, 16, 17, 18, 19, 20, 21, 22, 23, 24, 25, 26, 27, 28, 29, 30, 31, 32, 33, 34, 35, 36, 37, 38, 39, 40, 41, 42, 43, 44, 45, 46, 47, 48, 49, 50, 51, 52, 53, 54] (fun k => (k : Int) ≤ m) (fun k => [(7, .int .i64 (k : Int))]) (fun k => []) (fun k => m.toNat - k) (0) (hm0) (Le.lq (by repeat (first | exact Le.nil | refine Le.cons rfl (by first | rfl | (congr 1; omega)) ?_))) (by repeat (first | exact Pulls.nil | exact Pulls.all | (apply Pulls.cons; (repeat (first | exact Pull.head | apply Pull.tail))) | apply Pulls.skip)) ?_
  rintro k hk
  refine WC_seq ?_
  refine WC_seq ?_
  refine WC_region ?_
  refine WL_val rfl rfl rfl (R_move rfl rfl) ?_
  refine WL_val rfl rfl rfl (R_fieldAddr rfl fa30_0 rfl) ?_
  refine WL_val rfl rfl rfl (R_load rfl sc3 rfl (by repeat (first | exact List.Mem.head _ | refine List.Mem.tail _ ?_)) rfl) ?_
  refine WL_val rfl rfl rfl (R_lss rfl rfl rfl) ?_
  refine WL_nil ?_
  refine WQ_code ?_
  refine WC_dec rfl (fun c1 => ?_) (fun c1 => ?_)
  · refine WC_skip ?_
    refine WQ_code ?_
    refine WC_seq ?_
    refine WC_block ?_
    refine WC_seq ?_
    refine WC_seq ?_
    refine WC_region ?_
    refine WL_val rfl rfl rfl (R_loadA (vs := [_, _]) rfl ag30 rfl (by repeat (first | exact List.Mem.head _ | refine List.Mem.tail _ ?_)) rfl (by repeat (first | exact At.nil | refine At.cons ?_ | refine At.succ ?_))) ?_
    refine WL_val rfl rfl rfl (R_move rfl rfl) ?_
    obtain ⟨j, x, hjx⟩ := hall k (by omega)
    refine WL_do rfl rfl rfl (D_call (rat_yes m ob cw W tw hown k j x hjx) rfl rfl rfl rfl (by repeat (first | exact Pulls.nil | exact Pulls.all | (apply Pulls.cons; (repeat (first | exact Pull.head | apply Pull.tail))) | apply Pulls.skip))) ?_
    rintro _ _ ⟨_, ⟨rfl, rfl⟩, rfl⟩
    refine WL_val rfl rfl rfl (R_geq rfl rfl rfl) ?_
    refine WL_nil ?_
    refine WQ_code ?_
    refine WC_dT rfl (by omega) ?_
    refine WC_exit ?_
    refine WQ_code ?_
    refine WC_region ?_
    refine WL_val rfl rfl rfl (R_move rfl rfl) ?_
    refine WL_val rfl rfl rfl (R_add rfl rfl rfl (by omega)) ?_
    refine WL_val rfl rfl rfl (R_assign rfl rfl) ?_
    refine WL_nil ?_
    refine WQ_nextF (k + 1) (by omega) (by omega) (Le.lq (by repeat (first | exact Le.nil | refine Le.cons rfl (by first | rfl | (congr 1; omega)) ?_))) (by repeat (first | exact Pushed.refl | refine Pushed.push rfl ?_)) rfl (by repeat (first | exact Pulls.nil | exact Pulls.all | (apply Pulls.cons; (repeat (first | exact Pull.head | apply Pull.tail))) | apply Pulls.skip))
  · refine WC_exit ?_
    refine WQ_code ?_
    refine WC_seq ?_
    refine WC_region ?_
    refine WL_val rfl rfl rfl (R_loadA (vs := [_, _]) rfl ag30 rfl (by repeat (first | exact List.Mem.head _ | refine List.Mem.tail _ ?_)) rfl (by repeat (first | exact At.nil | refine At.cons ?_ | refine At.succ ?_))) ?_
    refine WL_val rfl rfl rfl (R_build rfl zv34 pl34 rfl rfl) ?_
    refine WL_do0 rfl rfl (D_store (vs := [_, _]) rfl Try.sizeOf30 rfl rfl rfl rfl rfl (by repeat (first | exact Pull.head | apply Pull.tail)) (by exact Nat.le_of_ble_eq_true rfl)) ?_
    rintro _ _ rfl
    refine WL_do0 rfl rfl (D_store (vs := [_, _]) rfl Try.sizeOf34 rfl rfl rfl rfl rfl (by repeat (first | exact Pull.head | apply Pull.tail)) (by exact Nat.le_of_ble_eq_true rfl)) ?_
    rintro _ _ rfl
    refine WL_val rfl rfl rfl (R_assign rfl rfl) ?_
    refine WL_nil ?_
    refine WQ_code ?_
    refine WC_ret ?_
    refine WQ_ret rfl rfl (.cons (.cell (vs := [_, _]) rfl ag30 (by repeat (first | exact List.Mem.head _ | refine List.Mem.tail _ ?_)) rfl (by repeat (first | exact At.nil | refine At.cons ?_ | refine At.succ ?_))) (.cons (.cell (vs := [_, _]) rfl ag34 (by repeat (first | exact List.Mem.head _ | refine List.Mem.tail _ ?_)) rfl (by repeat (first | exact At.nil | refine At.cons ?_ | refine At.succ ?_))) (.cons (.tmp rfl) .nil))) rfl (by
        exact ⟨rfl, rfl⟩) (by repeat (first | exact Pulls.nil | exact Pulls.all | (apply Pulls.cons; (repeat (first | exact Pull.head | apply Pull.tail))) | apply Pulls.skip))
/-- The table and the reference are alike. -/
structure Alike (T : List Pl) (W : List Fl) : Prop where
  yes : ∀ (k : Nat) (x : Pl), T[k]? = some x → x.opn = true → ∃ j, Open1 W (k : Int) j ⟨k, x.given - 1, x.value, false⟩
  no : ∀ (k : Nat) (x : Pl), T[k]? = some x → x.opn = false → NoOpen W (k : Int)
  out : ∀ (n : Int), (n < 0 ∨ (T.length : Int) ≤ n) → NoOpen W n
  cnt : ∀ (k : Nat) (x : Pl), T[k]? = some x → x.given = (cnt W (k : Int) : Int)
def flTo (T : List Pl) : Nat → List Fl
  | 0 => []
  | k + 1 => flTo T k ++ (match T[k]? with | some x => if x.opn then [⟨k, x.given - 1, x.value, false⟩] else [] | none => [])
theorem flTo_succ {T : List Pl} {k : Nat} {x : Pl} (h : T[k]? = some x) : flTo T (k + 1) = flTo T k ++ (if x.opn then [⟨k, x.given - 1, x.value, false⟩] else []) := by simp [flTo, h]
theorem flTo_len (T : List Pl) : ∀ k, (flTo T k).length ≤ k
  | 0 => by simp [flTo]
  | k + 1 => by
    have := flTo_len T k
    simp only [flTo, List.length_append]
    split
    · split <;> simp <;> omega
    · simp; omega
theorem flTo_out (T : List Pl) : ∀ k, (flTo T k).map Fl.out = filesTo T k
  | 0 => rfl
  | k + 1 => by
    simp only [flTo, filesTo, List.map_append, flTo_out T k]
    congr 1
    cases T[k]? with
    | none => rfl
    | some x => cases h : x.opn <;> simp [Fl.out, h]
theorem rat_T (m : Int) (ob : Option Nat) (cw : Nat) (W : List Fl) (tw : List Value) (hown : Own ob W.length cw 4 (W.flatMap encL) tw) {T : List Pl} (hA : Alike T W) (k : Nat) (x : Pl) (hx : T[k]? = some x) : Spec Try.prog 31 [refV m ob W.length cw, .int .i64 (k : Int)] [⟨ob, cl (W.flatMap encL ++ tw) 44⟩]
    (fun r H' => ∃ v, r = .int .i64 v ∧ H' = [⟨ob, cl (W.flatMap encL ++ tw) 44⟩] ∧ ((x.opn = true ∧ ∃ j : Nat, v = (j : Int) ∧ W[j]? = some ⟨k, x.given - 1, x.value, false⟩) ∨ (x.opn = false ∧ v < 0))) := by
  cases h : x.opn with
  | true =>
    obtain ⟨j, hj⟩ := hA.yes k x hx h
    exact (rat_yes m ob cw W tw hown k j _ hj).mono fun r H' ⟨h1, h2⟩ => ⟨(j : Int), h1, h2, .inl ⟨rfl, j, rfl, hj.at_⟩⟩
  | false => exact (rat_no m ob cw W tw hown k (hA.no k x hx h)).mono fun r H' ⟨h1, h2⟩ => ⟨-1, h1, h2, .inr ⟨rfl, by omega⟩⟩
theorem rfiles_ok (m : Int) (ob : Option Nat) (cw : Nat) (W : List Fl) (tw : List Value) (hown : Own ob W.length cw 4 (W.flatMap encL) tw) {T : List Pl} (hA : Alike T W) (hT : T.length ≤ 128) (hm : m = (T.length : Int)) : Spec Try.prog 12 [refV m ob W.length cw] [⟨ob, cl (W.flatMap encL ++ tw) 44⟩]
    (fun r H' => ∃ ob2 c2 tw2, r = slV ob2 (flTo T T.length).length c2 ∧ Own ob2 (flTo T T.length).length c2 4 ((flTo T T.length).flatMap encL) tw2 ∧ H' = ⟨ob2, cl ((flTo T T.length).flatMap encL ++ tw2) 44⟩ :: [⟨ob, cl (W.flatMap encL ++ tw) 44⟩]) := by
  subst hm
  refine Spec.of (E := [(0, refV (T.length : Int) ob W.length cw)]) Try.func12 rfl (by kernel_rfl) Try.ntmps12 rfl rfl (fun w => ?_)
  refine WC_seq ?_
  refine WC_region ?_
  refine WL_do rfl rfl rfl (D_box (cs := [_, _]) rfl rfl rfl) ?_
  rintro _ _ ⟨b1, rfl, rfl⟩
  refine WL_val rfl rfl rfl (R_assign rfl rfl) ?_
  refine WL_nil ?_
  refine WQ_code ?_
  refine WC_seq ?_
  refine WC_region ?_
  refine WL_val rfl rfl rfl (R_assign rfl rfl) ?_
  refine WL_nil ?_
  refine WQ_code ?_
  refine WC_seq ?_
  refine WC_seq ?_
  refine WC_region ?_
  refine WL_val rfl rfl rfl (R_assign rfl rfl) ?_
  refine WL_nil ?_
  refine WQ_code ?_
  refine WC_block ?_
  refine WC_none 44 ?_
  refine WC_loopF (G := Nat × List Fl × Nat × Option Nat × Nat × List Value) [3, 4, 5, 6, 7, 8, 9, 10, 11, 12, 13, 14, 15, 16, 17, 18, 19, 20, 21, 22, 23, 24] (fun g => g.1 ≤ T.length ∧ g.2.1 = flTo T g.1 ∧ g.2.2.1 = g.2.1.length ∧ Own g.2.2.2.1 g.2.2.1 g.2.2.2.2.1 4 (g.2.1.flatMap encL) g.2.2.2.2.2) (fun g => [(4, .int .i64 (g.1 : Int)), (3, slV g.2.2.2.1 g.2.2.1 g.2.2.2.2.1)]) (fun g => [⟨g.2.2.2.1, cl (g.2.1.flatMap encL ++ g.2.2.2.2.2) 44⟩]) (fun g => T.length - g.1) ((0, [], 0, none, 0, [])) (⟨Nat.zero_le _, rfl, rfl, Own.empty 4⟩) (Le.lq (by repeat (first | exact Le.nil | refine Le.cons rfl (by first | rfl | (congr 1; omega)) ?_))) (by repeat (first | exact Pulls.nil | exact Pulls.all | (apply Pulls.cons; (repeat (first | exact Pull.head | apply Pull.tail))) | apply Pulls.skip)) ?_
  rintro g ⟨hk, hL, hn, ho⟩
  have hfl := flTo_len T g.1
  rw [← hL] at hfl
  refine WC_seq ?_
  refine WC_seq ?_
  refine WC_region ?_
  refine WL_val rfl rfl rfl (R_move rfl rfl) ?_
  refine WL_val rfl rfl rfl (R_fieldAddr rfl fa30_0 rfl) ?_
  refine WL_val rfl rfl rfl (R_load rfl sc3 rfl (by repeat (first | exact List.Mem.head _ | refine List.Mem.tail _ ?_)) rfl) ?_
  refine WL_val rfl rfl rfl (R_lss rfl rfl rfl) ?_
  refine WL_nil ?_
  refine WQ_code ?_
  refine WC_dec rfl (fun c1 => ?_) (fun c1 => ?_)
  · refine WC_skip ?_
    refine WQ_code ?_
    refine WC_seq ?_
    refine WC_block ?_
    refine WC_seq ?_
    refine WC_region ?_
    refine WL_val rfl rfl rfl (R_loadA (vs := [_, _]) rfl ag30 rfl (by repeat (first | exact List.Mem.head _ | refine List.Mem.tail _ ?_)) rfl (by repeat (first | exact At.nil | refine At.cons ?_ | refine At.succ ?_))) ?_
    refine WL_val rfl rfl rfl (R_move rfl rfl) ?_
    obtain ⟨x, hx⟩ := exE (T := T) (i := g.1) (by omega)
    refine WL_do rfl rfl rfl (D_call (rat_T (T.length : Int) ob cw W tw hown hA g.1 x hx) rfl rfl rfl rfl (by repeat (first | exact Pulls.nil | exact Pulls.all | (apply Pulls.cons; (repeat (first | exact Pull.head | apply Pull.tail))) | apply Pulls.skip))) ?_
    rintro _ _ ⟨_, ⟨z, rfl, rfl, hz⟩, rfl⟩
    refine WL_val rfl rfl rfl (R_assign rfl rfl) ?_
    refine WL_nil ?_
    refine WQ_code ?_
    refine WC_seq ?_
    refine WC_region ?_
    refine WL_val rfl rfl rfl (R_move rfl rfl) ?_
    refine WL_val rfl rfl rfl (R_geq rfl rfl rfl) ?_
    refine WL_nil ?_
    refine WQ_code ?_
    refine WC_dec rfl (fun c2 => ?_) (fun c2 => ?_)
    · obtain ⟨hxo, j, rfl, hj⟩ := hz.resolve_right (by omega)
      have hjl : j < W.length := (List.getElem?_eq_some_iff.1 hj).1
      obtain ⟨wb, rfl⟩ := hown.some_of (by omega)
      refine WC_region ?_
      refine WL_val rfl rfl rfl (R_move rfl rfl) ?_
      refine WL_val rfl rfl rfl (R_fieldAddr rfl fa30_1 rfl) ?_
      refine WL_val rfl rfl rfl (R_load rfl sc28 rfl (by repeat (first | exact List.Mem.head _ | refine List.Mem.tail _ ?_)) rfl) ?_
      refine WL_val rfl rfl rfl (R_move rfl rfl) ?_
      refine WL_val rfl rfl rfl (R_indexAddrN rfl Try.underlying28 Try.sizeOf44 rfl rfl (by exact hjl)) ?_
      refine WL_val rfl rfl rfl (R_loadA (vs := [.int .i64 (g.1 : Int), .int .i64 (x.given - 1), .int .i64 x.value, .bool false]) rfl ag44 rfl (by repeat (first | exact List.Mem.head _ | refine List.Mem.tail _ ?_)) rfl ((fm_at0 encL4 hj (j := 0) (vs := [.int .i64 (g.1 : Int), .int .i64 (x.given - 1), .int .i64 x.value, .bool false]) (At.cons (At.cons (At.cons (At.cons At.nil)))) (by simp)))) ?_
      refine WL_do rfl rfl rfl (D_buildSlice rfl si28 rfl rfl rfl) ?_
      rintro _ _ ⟨b2, rfl, rfl⟩
      refine WL_do rfl rfl rfl (D_append rfl si28 rfl (ho) (by repeat (first | exact Pull.head | apply Pull.tail)) rfl (by repeat (first | exact List.Mem.head _ | refine List.Mem.tail _ ?_)) ((by repeat (first | exact At.nil | refine At.cons ?_ | refine At.succ ?_) : At _ 0 [_, _, _, _])) (rfl) (rfl) (by omega) (by omega)) ?_
      rintro _ _ ⟨ob3, cap3, tl3, rfl, own3, rfl⟩
      have hsn : g.2.1.flatMap encL ++ [Value.int .i64 (g.1 : Int), .int .i64 (x.given - 1), .int .i64 x.value, .bool false] = (g.2.1 ++ ([⟨g.1, x.given - 1, x.value, false⟩] : List Fl)).flatMap encL := by simp [encL]
      rw [hsn] at own3 ⊢
      refine WL_val rfl rfl rfl (R_assign rfl rfl) ?_
      refine WL_nil ?_
      refine WQ_code ?_
      refine WC_region ?_
      refine WL_val rfl rfl rfl (R_move rfl rfl) ?_
      refine WL_val rfl rfl rfl (R_add rfl rfl rfl (by omega)) ?_
      refine WL_val rfl rfl rfl (R_assign rfl rfl) ?_
      refine WL_nil ?_
      refine WQ_nextF ((g.1 + 1, g.2.1 ++ [⟨g.1, x.given - 1, x.value, false⟩], g.2.2.1 + 1, ob3, cap3, tl3)) (by refine ⟨by dsimp only; omega, by dsimp only; rw [flTo_succ hx, hxo, hL]; rfl, by dsimp only; rw [hn, List.length_append]; rfl, own3⟩) (by dsimp only; omega) (Le.lq (by repeat (first | exact Le.nil | refine Le.cons rfl (by first | rfl | (congr 1; omega)) ?_))) (by repeat (first | exact Pushed.refl | refine Pushed.push rfl ?_)) rfl (by repeat (first | exact Pulls.nil | exact Pulls.all | (apply Pulls.cons; (repeat (first | exact Pull.head | apply Pull.tail))) | apply Pulls.skip))
    · have hxo : x.opn = false := by
        rcases hz with ⟨_, j, rfl, _⟩ | hz
        · omega
        · exact hz.1
      refine WC_skip ?_
      refine WQ_code ?_
      refine WC_region ?_
      refine WL_val rfl rfl rfl (R_move rfl rfl) ?_
      refine WL_val rfl rfl rfl (R_add rfl rfl rfl (by omega)) ?_
      refine WL_val rfl rfl rfl (R_assign rfl rfl) ?_
      refine WL_nil ?_
      refine WQ_nextF ((g.1 + 1, g.2.1, g.2.2.1, g.2.2.2.1, g.2.2.2.2.1, g.2.2.2.2.2)) (by refine ⟨by dsimp only; omega, by dsimp only; rw [flTo_succ hx, hxo, hL]; simp, hn, ho⟩) (by dsimp only; omega) (Le.lq (by repeat (first | exact Le.nil | refine Le.cons rfl (by first | rfl | (congr 1; omega)) ?_))) (by repeat (first | exact Pushed.refl | refine Pushed.push rfl ?_)) rfl (by repeat (first | exact Pulls.nil | exact Pulls.all | (apply Pulls.cons; (repeat (first | exact Pull.head | apply Pull.tail))) | apply Pulls.skip))
  · have e9 : g.1 = T.length := by omega
    rw [e9] at hL
    refine WC_exit ?_
    refine WQ_code ?_
    refine WC_seq ?_
    refine WC_region ?_
    refine WL_val rfl rfl rfl (R_move rfl rfl) ?_
    refine WL_val rfl rfl rfl (R_assign rfl rfl) ?_
    refine WL_nil ?_
    refine WQ_code ?_
    refine WC_ret ?_
    refine WQ_ret rfl rfl (.cons (.tmp rfl) .nil) rfl (by
        exact ⟨g.2.2.2.1, g.2.2.2.2.1, g.2.2.2.2.2, by rw [← hL, ← hn]; rfl, by rw [← hL, ← hn]; exact ho, by rw [← hL]⟩) (by repeat (first | exact Pulls.nil | exact Pulls.all | (apply Pulls.cons; (repeat (first | exact Pull.head | apply Pull.tail))) | apply Pulls.skip))

end Go.Proofs.Ytnolalkkdigcbaa
