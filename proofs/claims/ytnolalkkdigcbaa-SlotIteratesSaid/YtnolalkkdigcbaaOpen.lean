/-
  Chapter 07 (slot), part Open: contracts of functions that the laws call, each for the heap it names.
-/
import Derived.Test.YtnolalkkdigcbaaRows
import Derived.Test.YtnolalkkdigcbaaSLArr
import Derived.Test.YtnolalkkdigcbaaTab
import Derived.Test.YtnolalkkdigcbaaFind
set_option linter.unusedVariables false
set_option maxRecDepth 20000
namespace Go.Proofs.Ytnolalkkdigcbaa


theorem new_bad (m : Int) (h : m < 1 ∨ 128 < m) : Spec Try.prog 9 [.int .i64 m] [] (fun v H' => v = .tuple #[.pointer none, .int .i64 2] ∧ H' = []) := by
  refine Spec.of (E := [(0, .int .i64 m)]) Try.func9 rfl (by kernel_rfl) Try.ntmps9 rfl rfl (fun w => ?_)
  refine WC_seq ?_
  refine WC_region ?_
  refine WL_val rfl rfl rfl (R_assign rfl rfl) ?_
  refine WL_val rfl rfl rfl (R_assign rfl rfl) ?_
  refine WL_nil ?_
  refine WQ_code ?_
  refine WC_seq ?_
  refine WC_seq ?_
  refine WC_region ?_
  refine WL_val rfl rfl rfl (R_move rfl rfl) ?_
  refine WL_val rfl rfl rfl (R_lss rfl rfl rfl) ?_
  refine WL_val rfl rfl rfl (R_move rfl rfl) ?_
  refine WL_splitD (s := 6) rfl (fun c1 => ?_) (fun c1 => ?_)
  · refine WL_skip rfl rfl rfl ?_
    refine WL_skip rfl rfl rfl ?_
    refine WL_val rfl rfl rfl (R_pickT rfl rfl rfl) ?_
    refine WL_nil ?_
    refine WQ_code ?_
    refine WC_T rfl ?_
    refine WC_seq ?_
    refine WC_region ?_
    refine WL_val rfl rfl rfl (R_assign rfl rfl) ?_
    refine WL_val rfl rfl rfl (R_assign rfl rfl) ?_
    refine WL_nil ?_
    refine WQ_code ?_
    refine WC_ret ?_
    refine WQ_ret rfl rfl (.cons (.tmp rfl) (.cons (.tmp rfl) .nil)) rfl (by
        exact ⟨rfl, rfl⟩) (by repeat (first | exact Pulls.nil | exact Pulls.all | (apply Pulls.cons; (repeat (first | exact Pull.head | apply Pull.tail))) | apply Pulls.skip))
  · refine WL_val rfl rfl rfl (R_move rfl rfl) ?_
    refine WL_val rfl rfl rfl (R_gtr rfl rfl rfl) ?_
    refine WL_val rfl rfl rfl (R_pickF rfl rfl rfl) ?_
    refine WL_nil ?_
    refine WQ_code ?_
    refine WC_dec rfl (fun c2 => ?_) (fun c2 => ?_)
    · refine WC_seq ?_
      refine WC_region ?_
      refine WL_val rfl rfl rfl (R_assign rfl rfl) ?_
      refine WL_val rfl rfl rfl (R_assign rfl rfl) ?_
      refine WL_nil ?_
      refine WQ_code ?_
      refine WC_ret ?_
      refine WQ_ret rfl rfl (.cons (.tmp rfl) (.cons (.tmp rfl) .nil)) rfl (by
          exact ⟨rfl, rfl⟩) (by repeat (first | exact Pulls.nil | exact Pulls.all | (apply Pulls.cons; (repeat (first | exact Pull.head | apply Pull.tail))) | apply Pulls.skip))
    · omega
abbrev freshT (n : Nat) : List Pl := List.replicate n ⟨0, 0, false⟩
theorem new_ok (n : Nat) (h1 : 1 ≤ n) (h2 : n ≤ 128) : Spec Try.prog 9 [.int .i64 (n : Int)] [] (fun v H' => ∃ p pb, v = .tuple #[ptr p, .int .i64 0] ∧ H' = tabH p pb n [] (freshT n)) := by
  refine Spec.mono (post := fun v H' => ∃ p pb, v = .tuple #[ptr p, .int .i64 0] ∧ H' = [⟨some p, cl [.slice (some ⟨pb, 0, none⟩) n n] 59⟩, ⟨some pb, cl ((freshT n).flatMap encP ++ []) 78⟩]) ?_ (fun v H' ⟨p, pb, h1, h2⟩ => ⟨p, pb, h1, by rw [h2]; simp [tabH]⟩)
  refine Spec.of (E := [(0, .int .i64 (n : Int))]) Try.func9 rfl (by kernel_rfl) Try.ntmps9 rfl rfl (fun w => ?_)
  refine WC_seq ?_
  refine WC_region ?_
  refine WL_val rfl rfl rfl (R_assign rfl rfl) ?_
  refine WL_val rfl rfl rfl (R_assign rfl rfl) ?_
  refine WL_nil ?_
  refine WQ_code ?_
  refine WC_seq ?_
  refine WC_seq ?_
  refine WC_region ?_
  refine WL_val rfl rfl rfl (R_move rfl rfl) ?_
  refine WL_val rfl rfl rfl (R_lss rfl rfl rfl) ?_
  refine WL_val rfl rfl rfl (R_move rfl rfl) ?_
  refine WL_set (s := 6) (v := .bool false) rfl (by simp; omega) ?_
  refine WL_val rfl rfl rfl (R_move rfl rfl) ?_
  refine WL_val rfl rfl rfl (R_gtr rfl rfl rfl) ?_
  refine WL_val rfl rfl rfl (R_pickF rfl rfl rfl) ?_
  refine WL_nil ?_
  refine WQ_code ?_
  refine WC_dF rfl (by omega) ?_
  refine WC_skip ?_
  refine WQ_code ?_
  refine WC_seq ?_
  refine WC_region ?_
  refine WL_val rfl rfl rfl (R_move rfl rfl) ?_
  refine WL_do rfl rfl rfl (D_make (n := n) rfl si57 rfl rfl (by omega) (by omega)) ?_
  rintro _ _ ⟨b1, rfl, rfl⟩
  refine WL_val rfl rfl rfl (R_build rfl zv59 pl59 rfl rfl) ?_
  refine WL_do rfl rfl rfl (D_box (cs := [_]) rfl rfl rfl) ?_
  rintro _ _ ⟨b2, rfl, rfl⟩
  refine WL_val rfl rfl rfl (R_assign rfl rfl) ?_
  refine WL_val rfl rfl rfl (R_assign rfl rfl) ?_
  refine WL_nil ?_
  refine WQ_code ?_
  refine WC_ret ?_
  rw [show (List.replicate n [Value.int .i64 0, .int .i64 0, .bool false]).flatten = (freshT n).flatMap encP ++ [] from by rw [List.append_nil]; exact fm_rep (enc := encP) ⟨0, 0, false⟩ n]
  refine WQ_ret rfl rfl (.cons (.tmp rfl) (.cons (.tmp rfl) .nil)) rfl (by
      exact ⟨b2, b1, rfl, rfl⟩) (by repeat (first | exact Pulls.nil | exact Pulls.all | (apply Pulls.cons; (repeat (first | exact Pull.head | apply Pull.tail))) | apply Pulls.skip))

theorem open_at (p pb c : Nat) (tl : List Value) (T : List Pl) (hT : Fine T) (v : Int) (i : Nat) (x : Pl) (hx : T[i]? = some x) (ho : x.opn = false) (hl : ∀ (j : Nat) (y : Pl), j < i → T[j]? = some y → y.opn = true) : Spec Try.prog 14 [ptr p, .int .i64 v] (tabH p pb c tl T)
    (fun r H' => r = .tuple #[fdV i x.given, .int .i64 0] ∧ H' = tabH p pb c tl (T.set i ⟨x.given + 1, v, true⟩)) := by
  have hb := hT.bd hx
  have hlt := lt_of hx
  have hlen := hT.len
  refine Spec.of (E := [(0, ptr p), (1, .int .i64 v)]) Try.func14 rfl (by kernel_rfl) Try.ntmps14 rfl rfl (fun w => ?_)
  refine WC_seq ?_
  refine WC_region ?_
  refine WL_do rfl rfl rfl (D_alloc rfl zv34) ?_
  rintro _ _ ⟨b1, rfl, rfl⟩
  refine WL_val rfl rfl rfl (R_assign rfl rfl) ?_
  refine WL_nil ?_
  refine WQ_code ?_
  refine WC_seq ?_
  refine WC_seq ?_
  refine WC_region ?_
  refine WL_val rfl rfl rfl (R_move rfl rfl) ?_
  refine WL_do rfl rfl rfl (D_call (zero_some p pb c tl T hT.ne) rfl rfl rfl rfl (by repeat (first | exact Pulls.nil | exact Pulls.all | (apply Pulls.cons; (repeat (first | exact Pull.head | apply Pull.tail))) | apply Pulls.skip))) ?_
  rintro _ _ ⟨_, ⟨rfl, rfl⟩, rfl⟩
  refine WL_nil ?_
  refine WQ_code ?_
  refine WC_F rfl ?_
  refine WC_skip ?_
  refine WQ_code ?_
  refine WC_seq ?_
  refine WC_seq ?_
  refine WC_region ?_
  refine WL_val rfl rfl rfl (R_move rfl rfl) ?_
  refine WL_val rfl rfl rfl (R_nilCheck rfl rfl) ?_
  refine WL_val rfl rfl rfl (R_fieldAddr rfl fa59_0 rfl) ?_
  refine WL_val rfl rfl rfl (R_load rfl sc57 rfl (by repeat (first | exact List.Mem.head _ | refine List.Mem.tail _ ?_)) rfl) ?_
  refine WL_val rfl rfl rfl (R_len rfl Try.underlying57 rfl) ?_
  refine WL_val rfl rfl rfl (R_move rfl rfl) ?_
  refine WL_nil ?_
  refine WQ_code ?_
  refine WC_block ?_
  refine WC_loopF (G := Nat) [5, 6, 7, 16, 17, 18, 19, 20, 21, 22, 23, 24, 25, 26, 27, 28, 29, 30, 31, 32, 33, 34, 35, 36, 37, 38, 39, 40, 41, 42, 43, 44, 45, 46] (fun k => k ≤ i) (fun k => [(16, .int .i64 (k : Int))]) (fun k => []) (fun k => i - k) (0) (Nat.zero_le _) (Le.lq (by repeat (first | exact Le.nil | refine Le.cons rfl (by first | rfl | (congr 1; omega)) ?_))) (by repeat (first | exact Pulls.nil | exact Pulls.all | (apply Pulls.cons; (repeat (first | exact Pull.head | apply Pull.tail))) | apply Pulls.skip)) ?_
  rintro k hk
  refine WC_seq ?_
  refine WC_region ?_
  refine WL_val rfl rfl rfl (R_lss rfl rfl rfl) ?_
  refine WL_nil ?_
  refine WQ_code ?_
  refine WC_seq ?_
  refine WC_dT rfl (by omega) ?_
  refine WC_skip ?_
  refine WQ_code ?_
  refine WC_seq ?_
  refine WC_block ?_
  refine WC_seq ?_
  refine WC_region ?_
  refine WL_val rfl rfl rfl (R_move rfl rfl) ?_
  refine WL_val rfl rfl rfl (R_assign rfl rfl) ?_
  refine WL_nil ?_
  refine WQ_code ?_
  refine WC_seq ?_
  refine WC_region ?_
  refine WL_val rfl rfl rfl (R_move rfl rfl) ?_
  refine WL_val rfl rfl rfl (R_nilCheck rfl rfl) ?_
  refine WL_val rfl rfl rfl (R_fieldAddr rfl fa59_0 rfl) ?_
  refine WL_val rfl rfl rfl (R_load rfl sc57 rfl (by repeat (first | exact List.Mem.head _ | refine List.Mem.tail _ ?_)) rfl) ?_
  refine WL_val rfl rfl rfl (R_move rfl rfl) ?_
  obtain ⟨y, hy⟩ := ex_of (T := T) (i := k) (by omega)
  refine WL_val rfl rfl rfl (R_indexAddrN rfl Try.underlying57 Try.sizeOf78 rfl rfl (by omega)) ?_
  refine WL_val rfl rfl rfl (R_assign rfl rfl) ?_
  refine WL_nil ?_
  refine WQ_code ?_
  refine WC_seq ?_
  refine WC_region ?_
  refine WL_val rfl rfl rfl (R_move rfl rfl) ?_
  refine WL_val rfl rfl rfl (R_nilCheck rfl rfl) ?_
  refine WL_val rfl rfl rfl (R_fieldAddr rfl fa78_2 rfl) ?_
  refine WL_val rfl rfl rfl (R_load rfl sc4 rfl (by repeat (first | exact List.Mem.head _ | refine List.Mem.tail _ ?_)) (fm_get0 encP3 hy (by omega))) ?_
  refine WL_val rfl rfl rfl (R_not rfl rfl) ?_
  refine WL_nil ?_
  refine WQ_code ?_
  refine WC_if rfl (fun c1 => ?_) (fun c1 => ?_)
  · have hki : k = i := by
      by_cases e : k < i
      · have := hl k y e hy; simp_all
      · omega
    subst hki
    refine WC_seq ?_
    refine WC_region ?_
    refine WL_val rfl rfl rfl (R_move rfl rfl) ?_
    refine WL_val rfl rfl rfl (R_move rfl rfl) ?_
    refine WL_val rfl rfl rfl (R_nilCheck rfl rfl) ?_
    refine WL_val rfl rfl rfl (R_fieldAddr rfl fa78_0 rfl) ?_
    refine WL_val rfl rfl rfl (R_load rfl sc3 rfl (by repeat (first | exact List.Mem.head _ | refine List.Mem.tail _ ?_)) (fm_get0 encP3 hx (by omega))) ?_
    refine WL_val rfl rfl rfl (R_add rfl rfl rfl (by omega)) ?_
    refine WL_val rfl rfl rfl (R_move rfl rfl) ?_
    refine WL_val rfl rfl rfl (R_build rfl zv78 pl78 rfl rfl) ?_
    refine WL_val rfl rfl rfl (R_nilCheck rfl rfl) ?_
    refine WL_do0 rfl rfl (D_store (vs := [_, _, _]) rfl Try.sizeOf78 rfl rfl rfl rfl rfl (by repeat (first | exact Pull.head | apply Pull.tail)) (by exact fm_room0 encP3 hlt (j := 0) (by omega))) ?_
    rintro _ _ rfl
    have hset : (T.set k ⟨x.given + 1, v, true⟩)[k]? = some ⟨x.given + 1, v, true⟩ := by simp [hlt]
    have hputs := fm_put0 encP3 (⟨x.given + 1, v, true⟩ : Pl) hx (j := 0) (vs := [.int .i64 (x.given + 1), .int .i64 v, .bool true]) (by simp) rfl (tl := tl)
    simp only [Nat.add_zero] at hputs
    rw [hputs]
    refine WL_nil ?_
    refine WQ_code ?_
    refine WC_seq ?_
    refine WC_region ?_
    refine WL_val rfl rfl rfl (R_move rfl rfl) ?_
    refine WL_val rfl rfl rfl (R_move rfl rfl) ?_
    refine WL_val rfl rfl rfl (R_nilCheck rfl rfl) ?_
    refine WL_val rfl rfl rfl (R_fieldAddr rfl fa78_0 rfl) ?_
    refine WL_val rfl rfl rfl (R_load (v := .int .i64 (x.given + 1)) rfl sc3 rfl (by repeat (first | exact List.Mem.head _ | refine List.Mem.tail _ ?_)) (fm_get0 encP3 hset (by omega))) ?_
    refine WL_val rfl rfl rfl (R_sub rfl rfl rfl (by omega)) ?_
    refine WL_val rfl rfl rfl (R_build rfl zv34 pl34 rfl rfl) ?_
    refine WL_do0 rfl rfl (D_store (vs := [_, _]) rfl Try.sizeOf34 rfl rfl rfl rfl rfl (by repeat (first | exact Pull.head | apply Pull.tail)) (by exact Nat.le_of_ble_eq_true rfl)) ?_
    rintro _ _ rfl
    refine WL_val rfl rfl rfl (R_assign rfl rfl) ?_
    refine WL_nil ?_
    refine WQ_code ?_
    refine WC_ret ?_
    refine WQ_ret rfl rfl (.cons (.cell (vs := [_, _]) rfl ag34 (by repeat (first | exact List.Mem.head _ | refine List.Mem.tail _ ?_)) rfl (by repeat (first | exact At.nil | refine At.cons ?_ | refine At.succ ?_))) (.cons (.tmp rfl) .nil)) rfl (by
        refine ⟨?_, ?_⟩
        · show Value.tuple #[fdV _ _, _] = _
          rw [show x.given + 1 - 1 = x.given from by omega]
        · simp only [tabH, List.length_set]
          rfl) (by repeat (first | exact Pulls.nil | exact Pulls.all | (apply Pulls.cons; (repeat (first | exact Pull.head | apply Pull.tail))) | apply Pulls.skip))
  · refine WC_skip ?_
    refine WQ_code ?_
    refine WC_region ?_
    refine WL_val rfl rfl rfl (R_add rfl rfl rfl (by omega)) ?_
    refine WL_val rfl rfl rfl (R_move rfl rfl) ?_
    refine WL_nil ?_
    have hki : k ≠ i := by intro e; subst e; rw [hx] at hy; cases hy; simp_all
    refine WQ_nextF (k + 1) (by omega) (by omega) (Le.lq (by repeat (first | exact Le.nil | refine Le.cons rfl (by first | rfl | (congr 1; omega)) ?_))) (by repeat (first | exact Pushed.refl | refine Pushed.push rfl ?_)) rfl (by repeat (first | exact Pulls.nil | exact Pulls.all | (apply Pulls.cons; (repeat (first | exact Pull.head | apply Pull.tail))) | apply Pulls.skip))
theorem open_full (p pb c : Nat) (tl : List Value) (T : List Pl) (hT : Fine T) (v : Int) (hl : ∀ (j : Nat) (y : Pl), T[j]? = some y → y.opn = true) : Spec Try.prog 14 [ptr p, .int .i64 v] (tabH p pb c tl T)
    (fun r H' => r = .tuple #[fdV 0 0, .int .i64 7] ∧ H' = tabH p pb c tl T) := by
  have hlen := hT.len
  refine Spec.of (E := [(0, ptr p), (1, .int .i64 v)]) Try.func14 rfl (by kernel_rfl) Try.ntmps14 rfl rfl (fun w => ?_)
  refine WC_seq ?_
  refine WC_region ?_
  refine WL_do rfl rfl rfl (D_alloc rfl zv34) ?_
  rintro _ _ ⟨b1, rfl, rfl⟩
  refine WL_val rfl rfl rfl (R_assign rfl rfl) ?_
  refine WL_nil ?_
  refine WQ_code ?_
  refine WC_seq ?_
  refine WC_seq ?_
  refine WC_region ?_
  refine WL_val rfl rfl rfl (R_move rfl rfl) ?_
  refine WL_do rfl rfl rfl (D_call (zero_some p pb c tl T hT.ne) rfl rfl rfl rfl (by repeat (first | exact Pulls.nil | exact Pulls.all | (apply Pulls.cons; (repeat (first | exact Pull.head | apply Pull.tail))) | apply Pulls.skip))) ?_
  rintro _ _ ⟨_, ⟨rfl, rfl⟩, rfl⟩
  refine WL_nil ?_
  refine WQ_code ?_
  refine WC_F rfl ?_
  refine WC_skip ?_
  refine WQ_code ?_
  refine WC_seq ?_
  refine WC_seq ?_
  refine WC_region ?_
  refine WL_val rfl rfl rfl (R_move rfl rfl) ?_
  refine WL_val rfl rfl rfl (R_nilCheck rfl rfl) ?_
  refine WL_val rfl rfl rfl (R_fieldAddr rfl fa59_0 rfl) ?_
  refine WL_val rfl rfl rfl (R_load rfl sc57 rfl (by repeat (first | exact List.Mem.head _ | refine List.Mem.tail _ ?_)) rfl) ?_
  refine WL_val rfl rfl rfl (R_len rfl Try.underlying57 rfl) ?_
  refine WL_val rfl rfl rfl (R_move rfl rfl) ?_
  refine WL_nil ?_
  refine WQ_code ?_
  refine WC_block ?_
  refine WC_loopF (G := Nat) [5, 6, 7, 16, 17, 18, 19, 20, 21, 22, 23, 24, 25, 26, 27, 28, 29, 30, 31, 32, 33, 34, 35, 36, 37, 38, 39, 40, 41, 42, 43, 44, 45, 46] (fun k => k ≤ T.length) (fun k => [(16, .int .i64 (k : Int))]) (fun k => []) (fun k => T.length - k) (0) (Nat.zero_le _) (Le.lq (by repeat (first | exact Le.nil | refine Le.cons rfl (by first | rfl | (congr 1; omega)) ?_))) (by repeat (first | exact Pulls.nil | exact Pulls.all | (apply Pulls.cons; (repeat (first | exact Pull.head | apply Pull.tail))) | apply Pulls.skip)) ?_
  rintro k hk
  refine WC_seq ?_
  refine WC_region ?_
  refine WL_val rfl rfl rfl (R_lss rfl rfl rfl) ?_
  refine WL_nil ?_
  refine WQ_code ?_
  refine WC_seq ?_
  refine WC_dec rfl (fun c1 => ?_) (fun c1 => ?_)
  · refine WC_skip ?_
    refine WQ_code ?_
    refine WC_seq ?_
    refine WC_block ?_
    refine WC_seq ?_
    refine WC_region ?_
    refine WL_val rfl rfl rfl (R_move rfl rfl) ?_
    refine WL_val rfl rfl rfl (R_assign rfl rfl) ?_
    refine WL_nil ?_
    refine WQ_code ?_
    refine WC_seq ?_
    refine WC_region ?_
    refine WL_val rfl rfl rfl (R_move rfl rfl) ?_
    refine WL_val rfl rfl rfl (R_nilCheck rfl rfl) ?_
    refine WL_val rfl rfl rfl (R_fieldAddr rfl fa59_0 rfl) ?_
    refine WL_val rfl rfl rfl (R_load rfl sc57 rfl (by repeat (first | exact List.Mem.head _ | refine List.Mem.tail _ ?_)) rfl) ?_
    refine WL_val rfl rfl rfl (R_move rfl rfl) ?_
    obtain ⟨y, hy⟩ := ex_of (T := T) (i := k) (by omega)
    have hyo := hl k y hy
    refine WL_val rfl rfl rfl (R_indexAddrN rfl Try.underlying57 Try.sizeOf78 rfl rfl (by omega)) ?_
    refine WL_val rfl rfl rfl (R_assign rfl rfl) ?_
    refine WL_nil ?_
    refine WQ_code ?_
    refine WC_seq ?_
    refine WC_region ?_
    refine WL_val rfl rfl rfl (R_move rfl rfl) ?_
    refine WL_val rfl rfl rfl (R_nilCheck rfl rfl) ?_
    refine WL_val rfl rfl rfl (R_fieldAddr rfl fa78_2 rfl) ?_
    refine WL_val rfl rfl rfl (R_load rfl sc4 rfl (by repeat (first | exact List.Mem.head _ | refine List.Mem.tail _ ?_)) (fm_get0 encP3 hy (by omega))) ?_
    refine WL_val rfl rfl rfl (R_not rfl rfl) ?_
    refine WL_nil ?_
    refine WQ_code ?_
    refine WC_if rfl (fun c2 => ?_) (fun c2 => ?_)
    · simp_all
    · refine WC_skip ?_
      refine WQ_code ?_
      refine WC_region ?_
      refine WL_val rfl rfl rfl (R_add rfl rfl rfl (by omega)) ?_
      refine WL_val rfl rfl rfl (R_move rfl rfl) ?_
      refine WL_nil ?_
      refine WQ_nextF (k + 1) (by omega) (by omega) (Le.lq (by repeat (first | exact Le.nil | refine Le.cons rfl (by first | rfl | (congr 1; omega)) ?_))) (by repeat (first | exact Pushed.refl | refine Pushed.push rfl ?_)) rfl (by repeat (first | exact Pulls.nil | exact Pulls.all | (apply Pulls.cons; (repeat (first | exact Pull.head | apply Pull.tail))) | apply Pulls.skip))
  · refine WC_exit ?_
    refine WQ_code ?_
    refine WC_seq ?_
    refine WC_region ?_
    refine WL_val rfl rfl rfl (R_build rfl zv34 pl34 rfl rfl) ?_
    refine WL_do0 rfl rfl (D_store (vs := [_, _]) rfl Try.sizeOf34 rfl rfl rfl rfl rfl (by repeat (first | exact Pull.head | apply Pull.tail)) (by exact Nat.le_of_ble_eq_true rfl)) ?_
    rintro _ _ rfl
    refine WL_val rfl rfl rfl (R_assign rfl rfl) ?_
    refine WL_nil ?_
    refine WQ_code ?_
    refine WC_ret ?_
    refine WQ_ret rfl rfl (.cons (.cell (vs := [_, _]) rfl ag34 (by repeat (first | exact List.Mem.head _ | refine List.Mem.tail _ ?_)) rfl (by repeat (first | exact At.nil | refine At.cons ?_ | refine At.succ ?_))) (.cons (.tmp rfl) .nil)) rfl (by
        exact ⟨rfl, rfl⟩) (by repeat (first | exact Pulls.nil | exact Pulls.all | (apply Pulls.cons; (repeat (first | exact Pull.head | apply Pull.tail))) | apply Pulls.skip))
theorem open_nil (v : Int) : Spec Try.prog 14 [.pointer none, .int .i64 v] [] (fun r H' => r = .tuple #[fdV 0 0, .int .i64 1] ∧ H' = []) := by
  refine Spec.of (E := [(0, .pointer none), (1, .int .i64 v)]) Try.func14 rfl (by kernel_rfl) Try.ntmps14 rfl rfl (fun w => ?_)
  refine WC_seq ?_
  refine WC_region ?_
  refine WL_do rfl rfl rfl (D_alloc rfl zv34) ?_
  rintro _ _ ⟨b1, rfl, rfl⟩
  refine WL_val rfl rfl rfl (R_assign rfl rfl) ?_
  refine WL_nil ?_
  refine WQ_code ?_
  refine WC_seq ?_
  refine WC_seq ?_
  refine WC_region ?_
  refine WL_val rfl rfl rfl (R_move rfl rfl) ?_
  refine WL_do rfl rfl rfl (D_call (zero_nil) rfl rfl rfl rfl (by repeat (first | exact Pulls.nil | exact Pulls.all | (apply Pulls.cons; (repeat (first | exact Pull.head | apply Pull.tail))) | apply Pulls.skip))) ?_
  rintro _ _ ⟨_, ⟨rfl, rfl⟩, rfl⟩
  refine WL_nil ?_
  refine WQ_code ?_
  refine WC_T rfl ?_
  refine WC_seq ?_
  refine WC_region ?_
  refine WL_val rfl rfl rfl (R_build rfl zv34 pl34 rfl rfl) ?_
  refine WL_do0 rfl rfl (D_store (vs := [_, _]) rfl Try.sizeOf34 rfl rfl rfl rfl rfl (by repeat (first | exact Pull.head | apply Pull.tail)) (by exact Nat.le_of_ble_eq_true rfl)) ?_
  rintro _ _ rfl
  refine WL_val rfl rfl rfl (R_assign rfl rfl) ?_
  refine WL_nil ?_
  refine WQ_code ?_
  refine WC_ret ?_
  refine WQ_ret rfl rfl (.cons (.cell (vs := [_, _]) rfl ag34 (by repeat (first | exact List.Mem.head _ | refine List.Mem.tail _ ?_)) rfl (by repeat (first | exact At.nil | refine At.cons ?_ | refine At.succ ?_))) (.cons (.tmp rfl) .nil)) rfl (by
      exact ⟨rfl, rfl⟩) (by repeat (first | exact Pulls.nil | exact Pulls.all | (apply Pulls.cons; (repeat (first | exact Pull.head | apply Pull.tail))) | apply Pulls.skip))
theorem open_zero (p : Nat) (v : Int) : Spec Try.prog 14 [ptr p, .int .i64 v] [⟨some p, cl [.slice none 0 0] 59⟩] (fun r H' => r = .tuple #[fdV 0 0, .int .i64 1] ∧ H' = [⟨some p, cl [.slice none 0 0] 59⟩]) := by
  refine Spec.of (E := [(0, ptr p), (1, .int .i64 v)]) Try.func14 rfl (by kernel_rfl) Try.ntmps14 rfl rfl (fun w => ?_)
  refine WC_seq ?_
  refine WC_region ?_
  refine WL_do rfl rfl rfl (D_alloc rfl zv34) ?_
  rintro _ _ ⟨b1, rfl, rfl⟩
  refine WL_val rfl rfl rfl (R_assign rfl rfl) ?_
  refine WL_nil ?_
  refine WQ_code ?_
  refine WC_seq ?_
  refine WC_seq ?_
  refine WC_region ?_
  refine WL_val rfl rfl rfl (R_move rfl rfl) ?_
  refine WL_do rfl rfl rfl (D_call (zero_zero p) rfl rfl rfl rfl (by repeat (first | exact Pulls.nil | exact Pulls.all | (apply Pulls.cons; (repeat (first | exact Pull.head | apply Pull.tail))) | apply Pulls.skip))) ?_
  rintro _ _ ⟨_, ⟨rfl, rfl⟩, rfl⟩
  refine WL_nil ?_
  refine WQ_code ?_
  refine WC_T rfl ?_
  refine WC_seq ?_
  refine WC_region ?_
  refine WL_val rfl rfl rfl (R_build rfl zv34 pl34 rfl rfl) ?_
  refine WL_do0 rfl rfl (D_store (vs := [_, _]) rfl Try.sizeOf34 rfl rfl rfl rfl rfl (by repeat (first | exact Pull.head | apply Pull.tail)) (by exact Nat.le_of_ble_eq_true rfl)) ?_
  rintro _ _ rfl
  refine WL_val rfl rfl rfl (R_assign rfl rfl) ?_
  refine WL_nil ?_
  refine WQ_code ?_
  refine WC_ret ?_
  refine WQ_ret rfl rfl (.cons (.cell (vs := [_, _]) rfl ag34 (by repeat (first | exact List.Mem.head _ | refine List.Mem.tail _ ?_)) rfl (by repeat (first | exact At.nil | refine At.cons ?_ | refine At.succ ?_))) (.cons (.tmp rfl) .nil)) rfl (by
      exact ⟨rfl, rfl⟩) (by repeat (first | exact Pulls.nil | exact Pulls.all | (apply Pulls.cons; (repeat (first | exact Pull.head | apply Pull.tail))) | apply Pulls.skip))

end Go.Proofs.Ytnolalkkdigcbaa
