/-
  Chapter 07 (slot), part Ref: contracts of functions that the laws call, each for the heap it names.
-/
import Derived.Test.YtnolalkkdigcbaaRows
import Derived.Test.YtnolalkkdigcbaaSLArr
import Derived.Test.YtnolalkkdigcbaaTab
import Derived.Test.YtnolalkkdigcbaaSLMore
import Derived.Test.YtnolalkkdigcbaaAll
set_option linter.unusedVariables false
set_option maxRecDepth 20000
namespace Go.Proofs.Ytnolalkkdigcbaa


abbrev refV (m : Int) (ob : Option Nat) (n c : Nat) : Value := .agg #[.int .i64 m, slV ob n c]
/-- The one open descriptor with number n lies at j. -/
structure Open1 (W : List Fl) (n : Int) (j : Nat) (x : Fl) : Prop where
  at_ : W[j]? = some x
  num : x.n = n
  opn : x.closed = false
  one : ∀ (i : Nat) (y : Fl), W[i]? = some y → y.n = n → y.closed = false → i = j
def NoOpen (W : List Fl) (n : Int) : Prop := ∀ (i : Nat) (y : Fl), W[i]? = some y → y.n = n → y.closed = true
theorem Open1.lt {W : List Fl} {n : Int} {j : Nat} {x : Fl} (h : Open1 W n j x) : j < W.length := (List.getElem?_eq_some_iff.1 h.at_).1
theorem rat_yes (m : Int) (ob : Option Nat) (cw : Nat) (W : List Fl) (tw : List Value) (hown : Own ob W.length cw 4 (W.flatMap encL) tw) (n : Int) (j : Nat) (x : Fl) (h : Open1 W n j x) : Spec Try.prog 31 [refV m ob W.length cw, .int .i64 n] [⟨ob, cl (W.flatMap encL ++ tw) 44⟩] (fun r H' => r = .int .i64 (j : Int) ∧ H' = [⟨ob, cl (W.flatMap encL ++ tw) 44⟩]) := by
  have hlt := h.lt
  have hcap := hown.le
  have hbig := hown.big
  obtain ⟨wb, rfl⟩ := hown.some_of (by omega)
  refine Spec.of (E := [(0, refV m (some wb) W.length cw), (1, .int .i64 n)]) Try.func31 rfl (by kernel_rfl) Try.ntmps31 rfl rfl (fun w => ?_)
  refine WC_seq ?_
  refine WC_region ?_
  refine WL_do rfl rfl rfl (D_box (cs := [_, _]) rfl rfl rfl) ?_
  rintro _ _ ⟨b1, rfl, rfl⟩
  refine WL_val rfl rfl rfl (R_assign rfl rfl) ?_
  refine WL_nil ?_
  refine WQ_code ?_
  refine WC_seq ?_
  refine WC_seq ?_
  refine WC_region ?_
  refine WL_val rfl rfl rfl (R_assign rfl rfl) ?_
  refine WL_nil ?_
  refine WQ_code ?_
  refine WC_block ?_
  refine WC_loopF (G := Nat) [4, 5, 6, 7, 8, 9, 10, 11, 12, 13, 14, 15, 16, 17, 18, 19, 20, 21, 22, 23, 24, 25, 26, 27, 28, 29, 30, 31] (fun k => k ≤ j) (fun k => [(5, .int .i64 (k : Int))]) (fun k => []) (fun k => j - k) (0) (Nat.zero_le _) (Le.lq (by repeat (first | exact Le.nil | refine Le.cons rfl (by first | rfl | (congr 1; omega)) ?_))) (by repeat (first | exact Pulls.nil | exact Pulls.all | (apply Pulls.cons; (repeat (first | exact Pull.head | apply Pull.tail))) | apply Pulls.skip)) ?_
  rintro k hk
  refine WC_seq ?_
  refine WC_seq ?_
  refine WC_region ?_
  refine WL_val rfl rfl rfl (R_move rfl rfl) ?_
  refine WL_val rfl rfl rfl (R_fieldAddr rfl fa30_1 rfl) ?_
  refine WL_val rfl rfl rfl (R_load rfl sc28 rfl (by repeat (first | exact List.Mem.head _ | refine List.Mem.tail _ ?_)) rfl) ?_
  refine WL_val rfl rfl rfl (R_len rfl Try.underlying28 rfl) ?_
  refine WL_val rfl rfl rfl (R_lss rfl rfl rfl) ?_
  refine WL_nil ?_
  refine WQ_code ?_
  refine WC_dT rfl (by omega) ?_
  refine WC_skip ?_
  refine WQ_code ?_
  refine WC_seq ?_
  refine WC_block ?_
  refine WC_seq ?_
  refine WC_region ?_
  refine WL_val rfl rfl rfl (R_fieldAddr rfl fa30_1 rfl) ?_
  refine WL_val rfl rfl rfl (R_load rfl sc28 rfl (by repeat (first | exact List.Mem.head _ | refine List.Mem.tail _ ?_)) rfl) ?_
  refine WL_val rfl rfl rfl (R_move rfl rfl) ?_
  obtain ⟨y, hy⟩ := exE (T := W) (i := k) (by omega)
  refine WL_val rfl rfl rfl (R_indexAddrN rfl Try.underlying28 Try.sizeOf44 rfl rfl (by omega)) ?_
  refine WL_val rfl rfl rfl (R_fieldAddr rfl fa44_0 rfl) ?_
  refine WL_val rfl rfl rfl (R_fieldAddr rfl fa34_0 rfl) ?_
  refine WL_val rfl rfl rfl (R_load (v := .int .i64 y.n) rfl sc3 rfl (by repeat (first | exact List.Mem.head _ | refine List.Mem.tail _ ?_)) (fm_get0 encL4 hy (by omega))) ?_
  refine WL_val rfl rfl rfl (R_move rfl rfl) ?_
  refine WL_val rfl rfl rfl (R_eql rfl rfl rfl) ?_
  refine WL_val rfl rfl rfl (R_move rfl rfl) ?_
  refine WL_splitD (s := 22) rfl (fun c1 => ?_) (fun c1 => ?_)
  · refine WL_val rfl rfl rfl (R_fieldAddr rfl fa30_1 rfl) ?_
    refine WL_val rfl rfl rfl (R_load rfl sc28 rfl (by repeat (first | exact List.Mem.head _ | refine List.Mem.tail _ ?_)) rfl) ?_
    refine WL_val rfl rfl rfl (R_move rfl rfl) ?_
    refine WL_val rfl rfl rfl (R_indexAddrN rfl Try.underlying28 Try.sizeOf44 rfl rfl (by omega)) ?_
    refine WL_val rfl rfl rfl (R_fieldAddr rfl fa44_2 rfl) ?_
    refine WL_val rfl rfl rfl (R_load rfl sc4 rfl (by repeat (first | exact List.Mem.head _ | refine List.Mem.tail _ ?_)) (fm_get0 encL4 hy (by omega))) ?_
    refine WL_val rfl rfl rfl (R_not rfl rfl) ?_
    refine WL_val rfl rfl rfl (R_pickT rfl rfl rfl) ?_
    refine WL_nil ?_
    refine WQ_code ?_
    refine WC_if rfl (fun c2 => ?_) (fun c2 => ?_)
    · obtain rfl : k = j := h.one k y hy (by simp_all) (by simp_all)
      refine WC_seq ?_
      refine WC_region ?_
      refine WL_val rfl rfl rfl (R_move rfl rfl) ?_
      refine WL_val rfl rfl rfl (R_assign rfl rfl) ?_
      refine WL_nil ?_
      refine WQ_code ?_
      refine WC_ret ?_
      refine WQ_ret rfl rfl (.cons (.tmp rfl) .nil) rfl (by
          exact ⟨rfl, rfl⟩) (by repeat (first | exact Pulls.nil | exact Pulls.all | (apply Pulls.cons; (repeat (first | exact Pull.head | apply Pull.tail))) | apply Pulls.skip))
    · refine WC_skip ?_
      refine WQ_code ?_
      refine WC_region ?_
      refine WL_val rfl rfl rfl (R_move rfl rfl) ?_
      refine WL_val rfl rfl rfl (R_add rfl rfl rfl (by omega)) ?_
      refine WL_val rfl rfl rfl (R_assign rfl rfl) ?_
      refine WL_nil ?_
      have hkj : k ≠ j := by intro e; subst e; have := h.at_; rw [hy] at this; cases this; have h1 := h.num; have h2 := h.opn; simp_all
      refine WQ_nextF (k + 1) (by omega) (by omega) (Le.lq (by repeat (first | exact Le.nil | refine Le.cons rfl (by first | rfl | (congr 1; omega)) ?_))) (by repeat (first | exact Pushed.refl | refine Pushed.push rfl ?_)) rfl (by repeat (first | exact Pulls.nil | exact Pulls.all | (apply Pulls.cons; (repeat (first | exact Pull.head | apply Pull.tail))) | apply Pulls.skip))
  · refine WL_skip rfl rfl rfl ?_
    refine WL_skip rfl rfl rfl ?_
    refine WL_skip rfl rfl rfl ?_
    refine WL_skip rfl rfl rfl ?_
    refine WL_skip rfl rfl rfl ?_
    refine WL_skip rfl rfl rfl ?_
    refine WL_skip rfl rfl rfl ?_
    refine WL_val rfl rfl rfl (R_pickF rfl rfl rfl) ?_
    refine WL_nil ?_
    refine WQ_code ?_
    refine WC_F rfl ?_
    refine WC_skip ?_
    refine WQ_code ?_
    refine WC_region ?_
    refine WL_val rfl rfl rfl (R_move rfl rfl) ?_
    refine WL_val rfl rfl rfl (R_add rfl rfl rfl (by omega)) ?_
    refine WL_val rfl rfl rfl (R_assign rfl rfl) ?_
    refine WL_nil ?_
    have hkj : k ≠ j := by intro e; subst e; have := h.at_; rw [hy] at this; cases this; have h1 := h.num; have h2 := h.opn; simp_all
    refine WQ_nextF (k + 1) (by omega) (by omega) (Le.lq (by repeat (first | exact Le.nil | refine Le.cons rfl (by first | rfl | (congr 1; omega)) ?_))) (by repeat (first | exact Pushed.refl | refine Pushed.push rfl ?_)) rfl (by repeat (first | exact Pulls.nil | exact Pulls.all | (apply Pulls.cons; (repeat (first | exact Pull.head | apply Pull.tail))) | apply Pulls.skip))
theorem rat_no (m : Int) (ob : Option Nat) (cw : Nat) (W : List Fl) (tw : List Value) (hown : Own ob W.length cw 4 (W.flatMap encL) tw) (n : Int) (h : NoOpen W n) : Spec Try.prog 31 [refV m ob W.length cw, .int .i64 n] [⟨ob, cl (W.flatMap encL ++ tw) 44⟩] (fun r H' => r = .int .i64 (-1) ∧ H' = [⟨ob, cl (W.flatMap encL ++ tw) 44⟩]) := by
  have hcap := hown.le
  have hbig := hown.big
  refine Spec.of (E := [(0, refV m ob W.length cw), (1, .int .i64 n)]) Try.func31 rfl (by kernel_rfl) Try.ntmps31 rfl rfl (fun w => ?_)
  refine WC_seq ?_
  refine WC_region ?_
  refine WL_do rfl rfl rfl (D_box (cs := [_, _]) rfl rfl rfl) ?_
  rintro _ _ ⟨b1, rfl, rfl⟩
  refine WL_val rfl rfl rfl (R_assign rfl rfl) ?_
  refine WL_nil ?_
  refine WQ_code ?_
  refine WC_seq ?_
  refine WC_seq ?_
  refine WC_region ?_
  refine WL_val rfl rfl rfl (R_assign rfl rfl) ?_
  refine WL_nil ?_
  refine WQ_code ?_
  refine WC_block ?_
  refine WC_loopF (G := Nat) [4, 5, 6, 7, 8, 9, 10, 11, 12, 13, 14, 15, 16, 17, 18, 19, 20, 21, 22, 23, 24, 25, 26, 27, 28, 29, 30, 31] (fun k => k ≤ W.length) (fun k => [(5, .int .i64 (k : Int))]) (fun k => []) (fun k => W.length - k) (0) (Nat.zero_le _) (Le.lq (by repeat (first | exact Le.nil | refine Le.cons rfl (by first | rfl | (congr 1; omega)) ?_))) (by repeat (first | exact Pulls.nil | exact Pulls.all | (apply Pulls.cons; (repeat (first | exact Pull.head | apply Pull.tail))) | apply Pulls.skip)) ?_
  rintro k hk
  refine WC_seq ?_
  refine WC_seq ?_
  refine WC_region ?_
  refine WL_val rfl rfl rfl (R_move rfl rfl) ?_
  refine WL_val rfl rfl rfl (R_fieldAddr rfl fa30_1 rfl) ?_
  refine WL_val rfl rfl rfl (R_load rfl sc28 rfl (by repeat (first | exact List.Mem.head _ | refine List.Mem.tail _ ?_)) rfl) ?_
  refine WL_val rfl rfl rfl (R_len rfl Try.underlying28 rfl) ?_
  refine WL_val rfl rfl rfl (R_lss rfl rfl rfl) ?_
  refine WL_nil ?_
  refine WQ_code ?_
  refine WC_dec rfl (fun c1 => ?_) (fun c1 => ?_)
  · refine WC_skip ?_
    refine WQ_code ?_
    refine WC_seq ?_
    refine WC_block ?_
    refine WC_seq ?_
    refine WC_region ?_
    refine WL_val rfl rfl rfl (R_fieldAddr rfl fa30_1 rfl) ?_
    refine WL_val rfl rfl rfl (R_load rfl sc28 rfl (by repeat (first | exact List.Mem.head _ | refine List.Mem.tail _ ?_)) rfl) ?_
    refine WL_val rfl rfl rfl (R_move rfl rfl) ?_
    obtain ⟨y, hy⟩ := exE (T := W) (i := k) (by omega)
    obtain ⟨wb, rfl⟩ := hown.some_of (by omega)
    refine WL_val rfl rfl rfl (R_indexAddrN rfl Try.underlying28 Try.sizeOf44 rfl rfl (by omega)) ?_
    refine WL_val rfl rfl rfl (R_fieldAddr rfl fa44_0 rfl) ?_
    refine WL_val rfl rfl rfl (R_fieldAddr rfl fa34_0 rfl) ?_
    refine WL_val rfl rfl rfl (R_load (v := .int .i64 y.n) rfl sc3 rfl (by repeat (first | exact List.Mem.head _ | refine List.Mem.tail _ ?_)) (fm_get0 encL4 hy (by omega))) ?_
    refine WL_val rfl rfl rfl (R_move rfl rfl) ?_
    refine WL_val rfl rfl rfl (R_eql rfl rfl rfl) ?_
    refine WL_val rfl rfl rfl (R_move rfl rfl) ?_
    refine WL_splitD (s := 22) rfl (fun c2 => ?_) (fun c2 => ?_)
    · refine WL_val rfl rfl rfl (R_fieldAddr rfl fa30_1 rfl) ?_
      refine WL_val rfl rfl rfl (R_load rfl sc28 rfl (by repeat (first | exact List.Mem.head _ | refine List.Mem.tail _ ?_)) rfl) ?_
      refine WL_val rfl rfl rfl (R_move rfl rfl) ?_
      refine WL_val rfl rfl rfl (R_indexAddrN rfl Try.underlying28 Try.sizeOf44 rfl rfl (by omega)) ?_
      refine WL_val rfl rfl rfl (R_fieldAddr rfl fa44_2 rfl) ?_
      refine WL_val rfl rfl rfl (R_load rfl sc4 rfl (by repeat (first | exact List.Mem.head _ | refine List.Mem.tail _ ?_)) (fm_get0 encL4 hy (by omega))) ?_
      refine WL_val rfl rfl rfl (R_not rfl rfl) ?_
      refine WL_val rfl rfl rfl (R_pickT rfl rfl rfl) ?_
      refine WL_nil ?_
      refine WQ_code ?_
      refine WC_if rfl (fun c3 => ?_) (fun c3 => ?_)
      · exfalso; have := h k y hy (by simp_all); simp_all
      · refine WC_skip ?_
        refine WQ_code ?_
        refine WC_region ?_
        refine WL_val rfl rfl rfl (R_move rfl rfl) ?_
        refine WL_val rfl rfl rfl (R_add rfl rfl rfl (by omega)) ?_
        refine WL_val rfl rfl rfl (R_assign rfl rfl) ?_
        refine WL_nil ?_
        refine WQ_nextF (k + 1) (by omega) (by omega) (Le.lq (by repeat (first | exact Le.nil | refine Le.cons rfl (by first | rfl | (congr 1; omega)) ?_))) (by repeat (first | exact Pushed.refl | refine Pushed.push rfl ?_)) rfl (by repeat (first | exact Pulls.nil | exact Pulls.all | (apply Pulls.cons; (repeat (first | exact Pull.head | apply Pull.tail))) | apply Pulls.skip))
    · refine WL_skip rfl rfl rfl ?_
      refine WL_skip rfl rfl rfl ?_
      refine WL_skip rfl rfl rfl ?_
      refine WL_skip rfl rfl rfl ?_
      refine WL_skip rfl rfl rfl ?_
      refine WL_skip rfl rfl rfl ?_
      refine WL_skip rfl rfl rfl ?_
      refine WL_val rfl rfl rfl (R_pickF rfl rfl rfl) ?_
      refine WL_nil ?_
      refine WQ_code ?_
      refine WC_F rfl ?_
      refine WC_skip ?_
      refine WQ_code ?_
      refine WC_region ?_
      refine WL_val rfl rfl rfl (R_move rfl rfl) ?_
      refine WL_val rfl rfl rfl (R_add rfl rfl rfl (by omega)) ?_
      refine WL_val rfl rfl rfl (R_assign rfl rfl) ?_
      refine WL_nil ?_
      refine WQ_nextF (k + 1) (by omega) (by omega) (Le.lq (by repeat (first | exact Le.nil | refine Le.cons rfl (by first | rfl | (congr 1; omega)) ?_))) (by repeat (first | exact Pushed.refl | refine Pushed.push rfl ?_)) rfl (by repeat (first | exact Pulls.nil | exact Pulls.all | (apply Pulls.cons; (repeat (first | exact Pull.head | apply Pull.tail))) | apply Pulls.skip))
  · refine WC_exit ?_
    refine WQ_code ?_
    refine WC_seq ?_
    refine WC_region ?_
    refine WL_val rfl rfl rfl (R_assign rfl rfl) ?_
    refine WL_nil ?_
    refine WQ_code ?_
    refine WC_ret ?_
    refine WQ_ret rfl rfl (.cons (.tmp rfl) .nil) rfl (by
        exact ⟨rfl, rfl⟩) (by repeat (first | exact Pulls.nil | exact Pulls.all | (apply Pulls.cons; (repeat (first | exact Pull.head | apply Pull.tail))) | apply Pulls.skip))
theorem rfind_yes (m : Int) (ob : Option Nat) (cw : Nat) (W : List Fl) (tw : List Value) (hown : Own ob W.length cw 4 (W.flatMap encL) tw) (n g : Int) (j : Nat) (x : Fl) (h : Open1 W n j x) (hg : x.gen = g) : Spec Try.prog 37 [refV m ob W.length cw, fdV n g] [⟨ob, cl (W.flatMap encL ++ tw) 44⟩] (fun r H' => r = .int .i64 (j : Int) ∧ H' = [⟨ob, cl (W.flatMap encL ++ tw) 44⟩]) := by
  have hlt := h.lt
  have hx := h.at_
  have hn := h.num
  obtain ⟨wb, rfl⟩ := hown.some_of (by omega)
  refine Spec.of (E := [(0, refV m (some wb) W.length cw), (1, fdV n g)]) Try.func37 rfl (by kernel_rfl) Try.ntmps37 rfl rfl (fun w => ?_)
  refine WC_seq ?_
  refine WC_region ?_
  refine WL_do rfl rfl rfl (D_box (cs := [_, _]) rfl rfl rfl) ?_
  rintro _ _ ⟨b1, rfl, rfl⟩
  refine WL_do rfl rfl rfl (D_box (cs := [_, _]) rfl rfl rfl) ?_
  rintro _ _ ⟨b2, rfl, rfl⟩
  refine WL_val rfl rfl rfl (R_assign rfl rfl) ?_
  refine WL_nil ?_
  refine WQ_code ?_
  refine WC_seq ?_
  refine WC_region ?_
  refine WL_val rfl rfl rfl (R_loadA (vs := [_, _]) rfl ag30 rfl (by repeat (first | exact List.Mem.head _ | refine List.Mem.tail _ ?_)) rfl (by repeat (first | exact At.nil | refine At.cons ?_ | refine At.succ ?_))) ?_
  refine WL_val rfl rfl rfl (R_fieldAddr rfl fa34_0 rfl) ?_
  refine WL_val rfl rfl rfl (R_load rfl sc3 rfl (by repeat (first | exact List.Mem.head _ | refine List.Mem.tail _ ?_)) rfl) ?_
  refine WL_do rfl rfl rfl (D_call (rat_yes m (some wb) cw W tw hown n j x h) rfl rfl rfl rfl (by repeat (first | exact Pulls.nil | exact Pulls.all | (apply Pulls.cons; (repeat (first | exact Pull.head | apply Pull.tail))) | apply Pulls.skip))) ?_
  rintro _ _ ⟨_, ⟨rfl, rfl⟩, rfl⟩
  refine WL_val rfl rfl rfl (R_assign rfl rfl) ?_
  refine WL_nil ?_
  refine WQ_code ?_
  refine WC_seq ?_
  refine WC_seq ?_
  refine WC_draw _ [(0, true), (1, true), (2, true), (3, true), (4, true), (5, true), (6, true), (7, true), (8, true), (9, true), (10, true), (11, true)] followsMixed rfl rfl (by kernel_rfl) .all ?_
  refine WM_val rfl rfl rfl rfl (R_move rfl rfl) ?_
  refine WM_val rfl rfl rfl rfl (R_lss rfl rfl rfl) ?_
  refine WM_val rfl rfl rfl rfl (R_move rfl rfl) ?_
  refine WM_set (s := 12) (v := .bool false) rfl (by simp) ?_
  refine WM_val rfl rfl rfl rfl (R_fieldAddr rfl fa30_1 rfl) ?_
  refine WM_val rfl rfl rfl rfl (R_load rfl sc28 rfl (by repeat (first | exact List.Mem.head _ | refine List.Mem.tail _ ?_)) rfl) ?_
  refine WM_val rfl rfl rfl rfl (R_move rfl rfl) ?_
  refine WM_val rfl rfl rfl rfl (R_indexAddrN rfl Try.underlying28 Try.sizeOf44 rfl rfl (by exact hlt)) ?_
  refine WM_val rfl rfl rfl rfl (R_fieldAddr rfl fa44_0 rfl) ?_
  refine WM_val rfl rfl rfl rfl (R_loadA (vs := [.int .i64 x.n, .int .i64 x.gen]) rfl ag34 rfl (by repeat (first | exact List.Mem.head _ | refine List.Mem.tail _ ?_)) rfl ((fm_at0 encL4 hx (j := 0) (vs := [.int .i64 x.n, .int .i64 x.gen]) (At.cons (At.cons At.nil)) (by simp)))) ?_
  refine WM_val rfl rfl rfl rfl (R_loadA (vs := [_, _]) rfl ag34 rfl (by repeat (first | exact List.Mem.head _ | refine List.Mem.tail _ ?_)) rfl (by repeat (first | exact At.nil | refine At.cons ?_ | refine At.succ ?_))) ?_
  refine WM_val rfl rfl rfl rfl (R_sne34 rfl rfl rfl rfl) ?_
  refine WM_val rfl rfl rfl rfl (R_pickF rfl rfl rfl) ?_
  refine WM_nil ?_
  refine WQ_code ?_
  refine WC_dF rfl (by simp [hn, hg]) ?_
  refine WC_skip ?_
  refine WQ_code ?_
  refine WC_seq ?_
  refine WC_region ?_
  refine WL_val rfl rfl rfl (R_move rfl rfl) ?_
  refine WL_val rfl rfl rfl (R_assign rfl rfl) ?_
  refine WL_nil ?_
  refine WQ_code ?_
  refine WC_ret ?_
  refine WQ_ret rfl rfl (.cons (.tmp rfl) .nil) rfl (by
      exact ⟨rfl, rfl⟩) (by repeat (first | exact Pulls.nil | exact Pulls.all | (apply Pulls.cons; (repeat (first | exact Pull.head | apply Pull.tail))) | apply Pulls.skip))
theorem rfind_ne (m : Int) (ob : Option Nat) (cw : Nat) (W : List Fl) (tw : List Value) (hown : Own ob W.length cw 4 (W.flatMap encL) tw) (n g : Int) (j : Nat) (x : Fl) (h : Open1 W n j x) (hg : x.gen ≠ g) : Spec Try.prog 37 [refV m ob W.length cw, fdV n g] [⟨ob, cl (W.flatMap encL ++ tw) 44⟩] (fun r H' => r = .int .i64 (-1) ∧ H' = [⟨ob, cl (W.flatMap encL ++ tw) 44⟩]) := by
  have hlt := h.lt
  have hx := h.at_
  have hn := h.num
  obtain ⟨wb, rfl⟩ := hown.some_of (by omega)
  refine Spec.of (E := [(0, refV m (some wb) W.length cw), (1, fdV n g)]) Try.func37 rfl (by kernel_rfl) Try.ntmps37 rfl rfl (fun w => ?_)
  refine WC_seq ?_
  refine WC_region ?_
  refine WL_do rfl rfl rfl (D_box (cs := [_, _]) rfl rfl rfl) ?_
  rintro _ _ ⟨b1, rfl, rfl⟩
  refine WL_do rfl rfl rfl (D_box (cs := [_, _]) rfl rfl rfl) ?_
  rintro _ _ ⟨b2, rfl, rfl⟩
  refine WL_val rfl rfl rfl (R_assign rfl rfl) ?_
  refine WL_nil ?_
  refine WQ_code ?_
  refine WC_seq ?_
  refine WC_region ?_
  refine WL_val rfl rfl rfl (R_loadA (vs := [_, _]) rfl ag30 rfl (by repeat (first | exact List.Mem.head _ | refine List.Mem.tail _ ?_)) rfl (by repeat (first | exact At.nil | refine At.cons ?_ | refine At.succ ?_))) ?_
  refine WL_val rfl rfl rfl (R_fieldAddr rfl fa34_0 rfl) ?_
  refine WL_val rfl rfl rfl (R_load rfl sc3 rfl (by repeat (first | exact List.Mem.head _ | refine List.Mem.tail _ ?_)) rfl) ?_
  refine WL_do rfl rfl rfl (D_call (rat_yes m (some wb) cw W tw hown n j x h) rfl rfl rfl rfl (by repeat (first | exact Pulls.nil | exact Pulls.all | (apply Pulls.cons; (repeat (first | exact Pull.head | apply Pull.tail))) | apply Pulls.skip))) ?_
  rintro _ _ ⟨_, ⟨rfl, rfl⟩, rfl⟩
  refine WL_val rfl rfl rfl (R_assign rfl rfl) ?_
  refine WL_nil ?_
  refine WQ_code ?_
  refine WC_seq ?_
  refine WC_seq ?_
  refine WC_draw _ [(0, true), (1, true), (2, true), (3, true), (4, true), (5, true), (6, true), (7, true), (8, true), (9, true), (10, true), (11, true)] followsMixed rfl rfl (by kernel_rfl) .all ?_
  refine WM_val rfl rfl rfl rfl (R_move rfl rfl) ?_
  refine WM_val rfl rfl rfl rfl (R_lss rfl rfl rfl) ?_
  refine WM_val rfl rfl rfl rfl (R_move rfl rfl) ?_
  refine WM_set (s := 12) (v := .bool false) rfl (by simp) ?_
  refine WM_val rfl rfl rfl rfl (R_fieldAddr rfl fa30_1 rfl) ?_
  refine WM_val rfl rfl rfl rfl (R_load rfl sc28 rfl (by repeat (first | exact List.Mem.head _ | refine List.Mem.tail _ ?_)) rfl) ?_
  refine WM_val rfl rfl rfl rfl (R_move rfl rfl) ?_
  refine WM_val rfl rfl rfl rfl (R_indexAddrN rfl Try.underlying28 Try.sizeOf44 rfl rfl (by exact hlt)) ?_
  refine WM_val rfl rfl rfl rfl (R_fieldAddr rfl fa44_0 rfl) ?_
  refine WM_val rfl rfl rfl rfl (R_loadA (vs := [.int .i64 x.n, .int .i64 x.gen]) rfl ag34 rfl (by repeat (first | exact List.Mem.head _ | refine List.Mem.tail _ ?_)) rfl ((fm_at0 encL4 hx (j := 0) (vs := [.int .i64 x.n, .int .i64 x.gen]) (At.cons (At.cons At.nil)) (by simp)))) ?_
  refine WM_val rfl rfl rfl rfl (R_loadA (vs := [_, _]) rfl ag34 rfl (by repeat (first | exact List.Mem.head _ | refine List.Mem.tail _ ?_)) rfl (by repeat (first | exact At.nil | refine At.cons ?_ | refine At.succ ?_))) ?_
  refine WM_val rfl rfl rfl rfl (R_sne34 rfl rfl rfl rfl) ?_
  refine WM_val rfl rfl rfl rfl (R_pickF rfl rfl rfl) ?_
  refine WM_nil ?_
  refine WQ_code ?_
  refine WC_dT rfl (by simp [hn, hg]) ?_
  refine WC_seq ?_
  refine WC_region ?_
  refine WL_val rfl rfl rfl (R_assign rfl rfl) ?_
  refine WL_nil ?_
  refine WQ_code ?_
  refine WC_ret ?_
  refine WQ_ret rfl rfl (.cons (.tmp rfl) .nil) rfl (by
      exact ⟨rfl, rfl⟩) (by repeat (first | exact Pulls.nil | exact Pulls.all | (apply Pulls.cons; (repeat (first | exact Pull.head | apply Pull.tail))) | apply Pulls.skip))
theorem rfind_no (m : Int) (ob : Option Nat) (cw : Nat) (W : List Fl) (tw : List Value) (hown : Own ob W.length cw 4 (W.flatMap encL) tw) (n g : Int) (h : NoOpen W n) : Spec Try.prog 37 [refV m ob W.length cw, fdV n g] [⟨ob, cl (W.flatMap encL ++ tw) 44⟩] (fun r H' => r = .int .i64 (-1) ∧ H' = [⟨ob, cl (W.flatMap encL ++ tw) 44⟩]) := by
  refine Spec.of (E := [(0, refV m ob W.length cw), (1, fdV n g)]) Try.func37 rfl (by kernel_rfl) Try.ntmps37 rfl rfl (fun w => ?_)
  refine WC_seq ?_
  refine WC_region ?_
  refine WL_do rfl rfl rfl (D_box (cs := [_, _]) rfl rfl rfl) ?_
  rintro _ _ ⟨b1, rfl, rfl⟩
  refine WL_do rfl rfl rfl (D_box (cs := [_, _]) rfl rfl rfl) ?_
  rintro _ _ ⟨b2, rfl, rfl⟩
  refine WL_val rfl rfl rfl (R_assign rfl rfl) ?_
  refine WL_nil ?_
  refine WQ_code ?_
  refine WC_seq ?_
  refine WC_region ?_
  refine WL_val rfl rfl rfl (R_loadA (vs := [_, _]) rfl ag30 rfl (by repeat (first | exact List.Mem.head _ | refine List.Mem.tail _ ?_)) rfl (by repeat (first | exact At.nil | refine At.cons ?_ | refine At.succ ?_))) ?_
  refine WL_val rfl rfl rfl (R_fieldAddr rfl fa34_0 rfl) ?_
  refine WL_val rfl rfl rfl (R_load rfl sc3 rfl (by repeat (first | exact List.Mem.head _ | refine List.Mem.tail _ ?_)) rfl) ?_
  refine WL_do rfl rfl rfl (D_call (rat_no m ob cw W tw hown n h) rfl rfl rfl rfl (by repeat (first | exact Pulls.nil | exact Pulls.all | (apply Pulls.cons; (repeat (first | exact Pull.head | apply Pull.tail))) | apply Pulls.skip))) ?_
  rintro _ _ ⟨_, ⟨rfl, rfl⟩, rfl⟩
  refine WL_val rfl rfl rfl (R_assign rfl rfl) ?_
  refine WL_nil ?_
  refine WQ_code ?_
  refine WC_seq ?_
  refine WC_seq ?_
  refine WC_draw _ [(0, true), (1, true), (2, true), (3, true), (4, true), (5, true), (6, true), (7, true), (8, true), (9, true), (10, true), (11, true)] followsMixed rfl rfl (by kernel_rfl) .all ?_
  refine WM_val rfl rfl rfl rfl (R_move rfl rfl) ?_
  refine WM_val rfl rfl rfl rfl (R_lss rfl rfl rfl) ?_
  refine WM_val rfl rfl rfl rfl (R_move rfl rfl) ?_
  refine WM_set (s := 12) (v := .bool true) rfl (by simp) ?_
  refine WM_skip rfl rfl rfl rfl ?_
  refine WM_skip rfl rfl rfl rfl ?_
  refine WM_skip rfl rfl rfl rfl ?_
  refine WM_skip rfl rfl rfl rfl ?_
  refine WM_skip rfl rfl rfl rfl ?_
  refine WM_skip rfl rfl rfl rfl ?_
  refine WM_skip rfl rfl rfl rfl ?_
  refine WM_skip rfl rfl rfl rfl ?_
  refine WM_val rfl rfl rfl rfl (R_pickT rfl rfl rfl) ?_
  refine WM_nil ?_
  refine WQ_code ?_
  refine WC_T rfl ?_
  refine WC_seq ?_
  refine WC_region ?_
  refine WL_val rfl rfl rfl (R_assign rfl rfl) ?_
  refine WL_nil ?_
  refine WQ_code ?_
  refine WC_ret ?_
  refine WQ_ret rfl rfl (.cons (.tmp rfl) .nil) rfl (by
      exact ⟨rfl, rfl⟩) (by repeat (first | exact Pulls.nil | exact Pulls.all | (apply Pulls.cons; (repeat (first | exact Pull.head | apply Pull.tail))) | apply Pulls.skip))
theorem rcopy_ok (m : Int) (ob : Option Nat) (cw : Nat) (W : List Fl) (tw : List Value) (hown : Own ob W.length cw 4 (W.flatMap encL) tw) (hlen : W.length ≤ 1000) : Spec Try.prog 36 [refV m ob W.length cw] [⟨ob, cl (W.flatMap encL ++ tw) 44⟩] (fun r H' => ∃ ob2 c2 tw2, r = refV m ob2 W.length c2 ∧ Own ob2 W.length c2 4 (W.flatMap encL) tw2 ∧ H' = ⟨ob2, cl (W.flatMap encL ++ tw2) 44⟩ :: [⟨ob, cl (W.flatMap encL ++ tw) 44⟩]) := by
  cases ob with
  | none =>
    have hW : W = [] := by
      have := hown.nil rfl; have := hown.le; exact List.eq_nil_of_length_eq_zero (by omega)
    subst hW
    have hc := hown.nil rfl
    subst hc
    have htw : tw = [] := List.eq_nil_of_length_eq_zero (by have := hown.cap; simpa using this)
    subst htw
    refine Spec.of (E := [(0, refV m none 0 0)]) Try.func36 rfl (by kernel_rfl) Try.ntmps36 rfl rfl (fun w => ?_)
    refine WC_seq ?_
    refine WC_region ?_
    refine WL_do rfl rfl rfl (D_box (cs := [_, _]) rfl rfl rfl) ?_
    rintro _ _ ⟨b1, rfl, rfl⟩
    refine WL_do rfl rfl rfl (D_alloc rfl zv30) ?_
    rintro _ _ ⟨b2, rfl, rfl⟩
    refine WL_nil ?_
    refine WQ_code ?_
    refine WC_seq ?_
    refine WC_draw ([⟨some b1, cl [.int .i64 m, slV none 0 0] 30⟩]) [(0, true), (1, true), (2, true), (3, true), (4, true), (5, true), (6, false)] followsMixed rfl rfl (by kernel_rfl) (by repeat (first | exact Pulls.nil | exact Pulls.all | (apply Pulls.cons; (repeat (first | exact Pull.head | apply Pull.tail))) | apply Pulls.skip)) ?_
    refine WM_val rfl rfl rfl rfl (R_fieldAddr rfl fa30_0 rfl) ?_
    refine WM_val rfl rfl rfl rfl (R_load rfl sc3 rfl (by repeat (first | exact List.Mem.head _ | refine List.Mem.tail _ ?_)) rfl) ?_
    refine WM_val rfl rfl rfl rfl (R_fieldAddr rfl fa30_1 rfl) ?_
    refine WM_val rfl rfl rfl rfl (R_load rfl sc28 rfl (by repeat (first | exact List.Mem.head _ | refine List.Mem.tail _ ?_)) rfl) ?_
    refine WM_val rfl rfl rfl rfl (R_append00 rfl si28 rfl rfl) ?_
    refine WM_val rfl rfl rfl rfl (R_build rfl zv30 pl30 rfl rfl) ?_
    refine WM_do0 rfl rfl rfl (D_store (vs := [_, _]) rfl Try.sizeOf30 rfl rfl rfl rfl rfl (by repeat (first | exact Pull.head | apply Pull.tail)) (by exact Nat.le_of_ble_eq_true rfl)) ?_
    rintro _ _ rfl
    refine ⟨⟨_, by repeat (first | exact Pulls.nil | exact Pulls.all | (apply Pulls.cons; (repeat (first | exact Pull.head | apply Pull.tail))) | apply Pulls.skip)⟩, ?_⟩
    refine WM_nil ?_
    refine WQ_code ?_
    refine WC_ret ?_
    refine WQ_none 44 ?_
    refine WQ_ret rfl rfl (.cons (.cell (vs := [_, _]) rfl ag30 (by repeat (first | exact List.Mem.head _ | refine List.Mem.tail _ ?_)) rfl (by repeat (first | exact At.nil | refine At.cons ?_ | refine At.succ ?_))) .nil) rfl (by
        exact ⟨none, 0, [], rfl, Own.empty 4, rfl⟩) (by repeat (first | exact Pulls.nil | exact Pulls.all | (apply Pulls.cons; (repeat (first | exact Pull.head | apply Pull.tail))) | apply Pulls.skip))
  | some wb =>
    refine Spec.of (E := [(0, refV m (some wb) W.length cw)]) Try.func36 rfl (by kernel_rfl) Try.ntmps36 rfl rfl (fun w => ?_)
    refine WC_seq ?_
    refine WC_region ?_
    refine WL_do rfl rfl rfl (D_box (cs := [_, _]) rfl rfl rfl) ?_
    rintro _ _ ⟨b1, rfl, rfl⟩
    refine WL_do rfl rfl rfl (D_alloc rfl zv30) ?_
    rintro _ _ ⟨b2, rfl, rfl⟩
    refine WL_nil ?_
    refine WQ_code ?_
    refine WC_seq ?_
    refine WC_draw ([⟨some b1, cl [.int .i64 m, slV (some wb) W.length cw] 30⟩, ⟨some wb, cl (W.flatMap encL ++ tw) 44⟩]) [(0, true), (1, true), (2, true), (3, true), (4, false), (5, true), (6, false)] followsMixed rfl rfl (by kernel_rfl) (by repeat (first | exact Pulls.nil | exact Pulls.all | (apply Pulls.cons; (repeat (first | exact Pull.head | apply Pull.tail))) | apply Pulls.skip)) ?_
    refine WM_val rfl rfl rfl rfl (R_fieldAddr rfl fa30_0 rfl) ?_
    refine WM_val rfl rfl rfl rfl (R_load rfl sc3 rfl (by repeat (first | exact List.Mem.head _ | refine List.Mem.tail _ ?_)) rfl) ?_
    refine WM_val rfl rfl rfl rfl (R_fieldAddr rfl fa30_1 rfl) ?_
    refine WM_val rfl rfl rfl rfl (R_load rfl sc28 rfl (by repeat (first | exact List.Mem.head _ | refine List.Mem.tail _ ?_)) rfl) ?_
    refine WM_none 44 ?_
    refine WM_do rfl rfl rfl rfl (D_append rfl si28 rfl ((Own.empty 4)) (by repeat (first | exact Pull.head | apply Pull.tail)) rfl (by repeat (first | exact List.Mem.head _ | refine List.Mem.tail _ ?_)) ((fun j v hj => by rw [Nat.zero_add, List.getElem?_append_left (List.getElem?_eq_some_iff.1 hj).1]; exact hj : At (W.flatMap encL ++ tw) 0 (W.flatMap encL))) (fm_length encL4 W) (fm_all encL_one W) (by omega) (by omega)) ?_
    rintro _ _ ⟨ob3, cap3, tl3, rfl, own3, rfl⟩
    refine ⟨⟨_, by repeat (first | exact Pulls.nil | exact Pulls.all | (apply Pulls.cons; (repeat (first | exact Pull.head | apply Pull.tail))) | apply Pulls.skip)⟩, ?_⟩
    rw [show 0 + W.length = W.length from by omega, List.nil_append] at *
    refine WM_val rfl rfl rfl rfl (R_build rfl zv30 pl30 rfl rfl) ?_
    refine WM_do0 rfl rfl rfl (D_store (vs := [_, _]) rfl Try.sizeOf30 rfl rfl rfl rfl rfl (by repeat (first | exact Pull.head | apply Pull.tail)) (by exact Nat.le_of_ble_eq_true rfl)) ?_
    rintro _ _ rfl
    refine ⟨⟨_, by repeat (first | exact Pulls.nil | exact Pulls.all | (apply Pulls.cons; (repeat (first | exact Pull.head | apply Pull.tail))) | apply Pulls.skip)⟩, ?_⟩
    refine WM_nil ?_
    refine WQ_code ?_
    refine WC_ret ?_
    refine WQ_ret rfl rfl (.cons (.cell (vs := [_, _]) rfl ag30 (by repeat (first | exact List.Mem.head _ | refine List.Mem.tail _ ?_)) rfl (by repeat (first | exact At.nil | refine At.cons ?_ | refine At.succ ?_))) .nil) rfl (by
        exact ⟨_, _, _, rfl, own3, rfl⟩) (by repeat (first | exact Pulls.nil | exact Pulls.all | (apply Pulls.cons; (repeat (first | exact Pull.head | apply Pull.tail))) | apply Pulls.skip))

end Go.Proofs.Ytnolalkkdigcbaa
