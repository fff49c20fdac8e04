/-
  Chapter 07 (slot), part Iter: contracts of functions that the laws call, each for the heap it names.
-/
import Derived.Test.YtnolalkkdigcbaaRows
import Derived.Test.YtnolalkkdigcbaaSLArr
import Derived.Test.YtnolalkkdigcbaaTab
import Derived.Test.YtnolalkkdigcbaaCopy
set_option linter.unusedVariables false
set_option maxRecDepth 20000
namespace Go.Proofs.Ytnolalkkdigcbaa


theorem iter_ok (bc : Nat) (p pb c : Nat) (tl : List Value) (T : List Pl) (hT : Fine T) : IterSpec Try.prog 32 [ptr bc] (⟨some bc, cl [ptr p] 24⟩ :: tabH p pb c tl T) encF (files T) := by
  intro l J Jx hY hj h0
  have hlen := hT.len
  refine Spec.of (E := [(0, yieldV l), (1, ptr bc)]) Try.func32 rfl (by kernel_rfl) Try.ntmps32 rfl rfl (fun w => ?_)
  refine WC_seq ?_
  refine WC_seq ?_
  refine WC_region ?_
  refine WL_val rfl rfl rfl (R_load rfl sc24 rfl (by repeat (first | exact List.Mem.head _ | refine List.Mem.tail _ ?_)) rfl) ?_
  refine WL_val rfl rfl rfl (R_ptrEqNil rfl Try.underlying24 rfl) ?_
  refine WL_nil ?_
  refine WQ_code ?_
  refine WC_F rfl ?_
  refine WC_skip ?_
  refine WQ_code ?_
  refine WC_seq ?_
  refine WC_region ?_
  refine WL_val rfl rfl rfl (R_load rfl sc24 rfl (by repeat (first | exact List.Mem.head _ | refine List.Mem.tail _ ?_)) rfl) ?_
  refine WL_val rfl rfl rfl (R_nilCheck rfl rfl) ?_
  refine WL_val rfl rfl rfl (R_fieldAddr rfl fa59_0 rfl) ?_
  refine WL_val rfl rfl rfl (R_load rfl sc57 rfl (by repeat (first | exact List.Mem.head _ | refine List.Mem.tail _ ?_)) rfl) ?_
  refine WL_val rfl rfl rfl (R_len rfl Try.underlying57 rfl) ?_
  refine WL_val rfl rfl rfl (R_move rfl rfl) ?_
  refine WL_nil ?_
  refine WQ_code ?_
  refine WC_block ?_
  refine WC_loopH (G := Nat × Heap) [3, 4, 12, 13, 14, 15, 16, 17, 18, 19, 20, 21, 22, 23, 24, 25, 26, 27, 28, 29, 30, 31] (fun g => g.1 ≤ T.length ∧ J (filesTo T g.1) g.2) (fun g => [(12, .int .i64 (g.1 : Int))]) (fun g => ⟨some bc, cl [ptr p] 24⟩ :: (tabH p pb c tl T ++ g.2)) (fun g => T.length - g.1) ((0, hj)) (⟨Nat.zero_le _, h0⟩) (Le.lq (by repeat (first | exact Le.nil | refine Le.cons rfl (by first | rfl | (congr 1; omega)) ?_))) (by repeat (first | exact Pulls.nil | exact Pulls.all | (apply Pulls.cons; (repeat (first | exact Pull.head | apply Pull.tail))) | apply Pulls.skip)) ?_
  rintro g ⟨hk, hJ⟩
  obtain ⟨k, hj⟩ := g
  simp only at hk hJ ⊢
  refine WC_seq ?_
  refine WC_region ?_
  refine WL_val rfl rfl rfl (R_lss rfl rfl rfl) ?_
  refine WL_nil ?_
  refine WQ_code ?_
  refine WC_seq ?_
  refine WC_dec rfl (fun c1 => ?_) (fun c1 => ?_)
  · refine WC_skip ?_
    refine WQ_code ?_
    refine WC_seq ?_
    refine WC_block ?_
    refine WC_seq ?_
    refine WC_region ?_
    refine WL_val rfl rfl rfl (R_move rfl rfl) ?_
    obtain ⟨x, hx⟩ := ex_of (T := T) (i := k) (by omega)
    have hb := hT.bd hx
    have hs := filesTo_succ hx
    refine WL_val rfl rfl rfl (R_indexAddrN rfl Try.underlying57 Try.sizeOf78 rfl rfl (by omega)) ?_
    refine WL_val rfl rfl rfl (R_loadA (vs := encP x) rfl ag78 rfl (by repeat (first | exact List.Mem.head _ | refine List.Mem.tail _ ?_)) rfl ((fm_at0 encP3 hx (j := 0) (At.all (cs := encP x)) (by simp [encP3])))) ?_
    refine WL_do rfl rfl rfl (D_alloc rfl zv78) ?_
    rintro _ _ ⟨b1, rfl, rfl⟩
    refine WL_val rfl rfl rfl (R_assign rfl rfl) ?_
    refine WL_do0 rfl rfl (D_store (vs := [_, _, _]) rfl Try.sizeOf78 rfl rfl rfl rfl rfl (by repeat (first | exact Pull.head | apply Pull.tail)) (by exact Nat.le_of_ble_eq_true rfl)) ?_
    rintro _ _ rfl
    refine WL_nil ?_
    refine WQ_code ?_
    refine WC_seq ?_
    refine WC_region ?_
    refine WL_val rfl rfl rfl (R_fieldAddr rfl fa78_2 rfl) ?_
    refine WL_val rfl rfl rfl (R_load rfl sc4 rfl (by repeat (first | exact List.Mem.head _ | refine List.Mem.tail _ ?_)) rfl) ?_
    refine WL_val rfl rfl rfl (R_move rfl rfl) ?_
    refine WL_split (s := 19) rfl (fun c2 => ?_) (fun c2 => ?_)
    · have hop : x.opn = true := c2
      obtain ⟨r, hr⟩ := filesTo_pre (T := T) (show k + 1 ≤ T.length from by omega)
      have hdec : files T = filesTo T k ++ ((k : Int), x.given - 1, x.value) :: r := by rw [files, hr, hs]; simp [hop]
      refine WL_val rfl rfl rfl (R_move rfl rfl) ?_
      refine WL_val rfl rfl rfl (R_move rfl rfl) ?_
      refine WL_val rfl rfl rfl (R_fieldAddr rfl fa78_0 rfl) ?_
      refine WL_val rfl rfl rfl (R_load rfl sc3 rfl (by repeat (first | exact List.Mem.head _ | refine List.Mem.tail _ ?_)) rfl) ?_
      refine WL_val rfl rfl rfl (R_sub rfl rfl rfl (by omega)) ?_
      refine WL_val rfl rfl rfl (R_build rfl zv34 pl34 rfl rfl) ?_
      refine WL_val rfl rfl rfl (R_fieldAddr rfl fa78_1 rfl) ?_
      refine WL_val rfl rfl rfl (R_load rfl sc3 rfl (by repeat (first | exact List.Mem.head _ | refine List.Mem.tail _ ?_)) rfl) ?_
      refine WL_do rfl rfl rfl (D_yield (F := [_, _, _, _]) (hY (filesTo T k) ((k : Int), x.given - 1, x.value) r hj hdec hJ) rfl rfl rfl rfl (List.Perm.refl _)) ?_
      rintro _ _ ⟨hj2, (⟨rfl, hJ2⟩ | ⟨rfl, hJ2⟩), rfl⟩
      · refine WL_val rfl rfl rfl (R_not rfl rfl) ?_
        refine WL_val rfl rfl rfl (R_pickT rfl rfl rfl) ?_
        refine WL_nil ?_
        refine WQ_code ?_
        refine WC_F rfl ?_
        refine WC_skip ?_
        refine WQ_code ?_
        refine WC_region ?_
        refine WL_val rfl rfl rfl (R_add rfl rfl rfl (by omega)) ?_
        refine WL_val rfl rfl rfl (R_move rfl rfl) ?_
        refine WL_nil ?_
        refine WQ_nextH (gg := (k, hj)) ((k + 1, hj2)) (⟨by (show k + 1 ≤ T.length); omega, by (show J (filesTo T (k + 1)) _); rw [hs]; simp only [hop]; exact hJ2⟩) (by (show T.length - (k + 1) < T.length - k); omega) (Le.lq (by repeat (first | exact Le.nil | refine Le.cons rfl (by first | rfl | (congr 1; omega)) ?_))) (by repeat (first | exact Pushed.refl | refine Pushed.push rfl ?_)) rfl (by repeat (first | exact Pulls.nil | exact Pulls.all | (apply Pulls.cons; (repeat (first | exact Pull.head | apply Pull.tail))) | apply Pulls.skip))
      · refine WL_val rfl rfl rfl (R_not rfl rfl) ?_
        refine WL_val rfl rfl rfl (R_pickT rfl rfl rfl) ?_
        refine WL_nil ?_
        refine WQ_code ?_
        refine WC_T rfl ?_
        refine WC_ret ?_
        refine WQ_ret rfl rfl .nil rfl (by
            first | exact ⟨_, .inr ⟨_, hJ2⟩, rfl⟩ | (rw [show k = T.length from (by omega)] at hJ; exact ⟨_, .inl hJ, rfl⟩)) (by repeat (first | exact Pulls.nil | exact Pulls.all | (apply Pulls.cons; (repeat (first | exact Pull.head | apply Pull.tail))) | apply Pulls.skip))
    · have hop : x.opn = false := c2
      refine WL_skip rfl rfl rfl ?_
      refine WL_skip rfl rfl rfl ?_
      refine WL_skip rfl rfl rfl ?_
      refine WL_skip rfl rfl rfl ?_
      refine WL_skip rfl rfl rfl ?_
      refine WL_skip rfl rfl rfl ?_
      refine WL_skip rfl rfl rfl ?_
      refine WL_skip rfl rfl rfl ?_
      refine WL_skip rfl rfl rfl ?_
      refine WL_skip rfl rfl rfl ?_
      refine WL_val rfl rfl rfl (R_pickF rfl rfl rfl) ?_
      refine WL_nil ?_
      refine WQ_code ?_
      refine WC_F rfl ?_
      refine WC_skip ?_
      refine WQ_code ?_
      refine WC_region ?_
      refine WL_val rfl rfl rfl (R_add rfl rfl rfl (by omega)) ?_
      refine WL_val rfl rfl rfl (R_move rfl rfl) ?_
      refine WL_nil ?_
      refine WQ_nextH (gg := (k, hj)) ((k + 1, hj)) (⟨by (show k + 1 ≤ T.length); omega, by (show J (filesTo T (k + 1)) _); rw [hs]; simp only [hop]; simpa using hJ⟩) (by (show T.length - (k + 1) < T.length - k); omega) (Le.lq (by repeat (first | exact Le.nil | refine Le.cons rfl (by first | rfl | (congr 1; omega)) ?_))) (by repeat (first | exact Pushed.refl | refine Pushed.push rfl ?_)) rfl (by repeat (first | exact Pulls.nil | exact Pulls.all | (apply Pulls.cons; (repeat (first | exact Pull.head | apply Pull.tail))) | apply Pulls.skip))
  · refine WC_exit ?_
    refine WQ_ret rfl rfl .nil rfl (by
        first | exact ⟨_, .inr ⟨_, hJ2⟩, rfl⟩ | (rw [show k = T.length from (by omega)] at hJ; exact ⟨_, .inl hJ, rfl⟩)) (by repeat (first | exact Pulls.nil | exact Pulls.all | (apply Pulls.cons; (repeat (first | exact Pull.head | apply Pull.tail))) | apply Pulls.skip))
theorem iter_none (bc : Nat) : IterSpec Try.prog 32 [ptr bc] [⟨some bc, cl [.pointer none] 24⟩] encF [] := by
  intro l J Jx hY hj h0
  refine Spec.of (E := [(0, yieldV l), (1, ptr bc)]) Try.func32 rfl (by kernel_rfl) Try.ntmps32 rfl rfl (fun w => ?_)
  refine WC_seq ?_
  refine WC_seq ?_
  refine WC_region ?_
  refine WL_val rfl rfl rfl (R_load rfl sc24 rfl (by repeat (first | exact List.Mem.head _ | refine List.Mem.tail _ ?_)) rfl) ?_
  refine WL_val rfl rfl rfl (R_ptrEqNil rfl Try.underlying24 rfl) ?_
  refine WL_nil ?_
  refine WQ_code ?_
  refine WC_T rfl ?_
  refine WC_ret ?_
  refine WQ_ret rfl rfl .nil rfl (by
      exact ⟨hj, .inl h0, rfl⟩) (by repeat (first | exact Pulls.nil | exact Pulls.all | (apply Pulls.cons; (repeat (first | exact Pull.head | apply Pull.tail))) | apply Pulls.skip))
theorem len_ok (p pb c : Nat) (tl : List Value) (T : List Pl) (hT : Fine T) : Spec Try.prog 19 [ptr p] (tabH p pb c tl T) (fun r H' => r = .int .i64 ((files T).length : Int) ∧ H' = tabH p pb c tl T) := by
  have hfl : (files T).length ≤ T.length := filesTo_len T T.length
  have hlen := hT.len
  refine Spec.ofM (E := [(0, ptr p)]) Try.func19 rfl (by kernel_rfl) Try.ntmps19 rfl rfl (fun w => ?_)
  refine WC_seq ?_
  refine WC_region ?_
  refine WL_val rfl rfl rfl (R_assign rfl rfl) ?_
  refine WL_nil ?_
  refine WQ_code ?_
  refine WC_seq ?_
  refine WC_region ?_
  refine WL_do rfl rfl rfl (D_alloc rfl zv3) ?_
  rintro _ _ ⟨b1, rfl, rfl⟩
  refine WL_do0 rfl rfl (D_store (vs := [_]) rfl Try.sizeOf3 rfl rfl rfl rfl rfl (by repeat (first | exact Pull.head | apply Pull.tail)) (by exact Nat.le_of_ble_eq_true rfl)) ?_
  rintro _ _ rfl
  refine WL_nil ?_
  refine WQ_code ?_
  refine WC_seq ?_
  refine WC_seq ?_
  refine WC_region ?_
  refine WL_val rfl rfl rfl (R_move rfl rfl) ?_
  refine WL_do rfl rfl rfl (D_call (all_ok p pb c tl T hT) rfl rfl rfl rfl (by repeat (first | exact Pulls.nil | exact Pulls.all | (apply Pulls.cons; (repeat (first | exact Pull.head | apply Pull.tail))) | apply Pulls.skip))) ?_
  rintro _ _ ⟨_, ⟨bc, p2, pb2, c2, tl2, rfl, rfl⟩, rfl⟩
  refine WL_nil ?_
  refine WQ_code ?_
  refine WC_block ?_
  refine WC_range (G := Nat) (GX := Unit) (iter_ok bc p2 pb2 c2 tl2 T hT) rfl rfl (fun _ => rfl) rfl (fun pre g => g = pre.length) (fun g => [⟨some b1, cl [.int .i64 (g : Int)] 3⟩]) (fun _ _ _ => False) (fun _ => []) (0) (rfl) (by repeat (first | exact Pulls.nil | exact Pulls.all | (apply Pulls.cons; (repeat (first | exact Pull.head | apply Pull.tail))) | apply Pulls.skip)) (by repeat (first | exact Pulls.nil | exact Pulls.all | (apply Pulls.cons; (repeat (first | exact Pull.head | apply Pull.tail))) | apply Pulls.skip)) ?_ ?_ ?_
  · intro l pre x suf gg hx hI w2
    have hl := congrArg List.length hx
    simp at hl
    refine WC_skip ?_
    refine WQ_begin (fun w3 => ?_)
    refine WC_block ?_
    refine WC_region ?_
    refine WL_val rfl rfl rfl (R_load rfl sc3 rfl (by repeat (first | exact List.Mem.head _ | refine List.Mem.tail _ ?_)) rfl) ?_
    refine WL_val rfl rfl rfl (R_add rfl rfl rfl (by omega)) ?_
    refine WL_do0 rfl rfl (D_store (vs := [_]) rfl Try.sizeOf3 rfl rfl rfl rfl rfl (by repeat (first | exact Pull.head | apply Pull.tail)) (by exact Nat.le_of_ble_eq_true rfl)) ?_
    rintro _ _ rfl
    refine WL_nil ?_
    refine WQ_rnd (gg + 1) ?_ (by repeat (first | exact Pulls.nil | exact Pulls.all | (apply Pulls.cons; (repeat (first | exact Pull.head | apply Pull.tail))) | apply Pulls.skip))
    exact (by simp [hI])
  · intro dl gg hI
    refine WQ_code ?_
    refine WC_seq ?_
    refine WC_region ?_
    refine WL_val rfl rfl rfl (R_load rfl sc3 rfl (by repeat (first | exact List.Mem.head _ | refine List.Mem.tail _ ?_)) rfl) ?_
    refine WL_val rfl rfl rfl (R_assign rfl rfl) ?_
    refine WL_nil ?_
    refine WQ_code ?_
    refine WC_ret ?_
    refine WQ_retM rfl (by repeat (first | exact Pull.head | apply Pull.tail)) rfl (.cons (.tmp rfl) .nil) rfl (by
        exact ⟨by rw [hI]; rfl, rfl⟩) (by repeat (first | exact Pulls.nil | exact Pulls.all | (apply Pulls.cons; (repeat (first | exact Pull.head | apply Pull.tail))) | apply Pulls.skip))
  · intro dl c pre gx hIx
    exact hIx.elim
theorem len_nil : Spec Try.prog 19 [.pointer none] [] (fun r H' => r = .int .i64 0 ∧ H' = []) := by
  refine Spec.ofM (E := [(0, .pointer none)]) Try.func19 rfl (by kernel_rfl) Try.ntmps19 rfl rfl (fun w => ?_)
  refine WC_seq ?_
  refine WC_region ?_
  refine WL_val rfl rfl rfl (R_assign rfl rfl) ?_
  refine WL_nil ?_
  refine WQ_code ?_
  refine WC_seq ?_
  refine WC_region ?_
  refine WL_do rfl rfl rfl (D_alloc rfl zv3) ?_
  rintro _ _ ⟨b1, rfl, rfl⟩
  refine WL_do0 rfl rfl (D_store (vs := [_]) rfl Try.sizeOf3 rfl rfl rfl rfl rfl (by repeat (first | exact Pull.head | apply Pull.tail)) (by exact Nat.le_of_ble_eq_true rfl)) ?_
  rintro _ _ rfl
  refine WL_nil ?_
  refine WQ_code ?_
  refine WC_seq ?_
  refine WC_seq ?_
  refine WC_region ?_
  refine WL_val rfl rfl rfl (R_move rfl rfl) ?_
  refine WL_do rfl rfl rfl (D_call (all_nil) rfl rfl rfl rfl (by repeat (first | exact Pulls.nil | exact Pulls.all | (apply Pulls.cons; (repeat (first | exact Pull.head | apply Pull.tail))) | apply Pulls.skip))) ?_
  rintro _ _ ⟨_, ⟨bc, rfl, rfl⟩, rfl⟩
  refine WL_nil ?_
  refine WQ_code ?_
  refine WC_block ?_
  refine WC_range (G := Nat) (GX := Unit) (iter_none bc) rfl rfl (fun _ => rfl) rfl (fun pre g => g = pre.length) (fun g => [⟨some b1, cl [.int .i64 (g : Int)] 3⟩]) (fun _ _ _ => False) (fun _ => []) (0) (rfl) (by repeat (first | exact Pulls.nil | exact Pulls.all | (apply Pulls.cons; (repeat (first | exact Pull.head | apply Pull.tail))) | apply Pulls.skip)) (by repeat (first | exact Pulls.nil | exact Pulls.all | (apply Pulls.cons; (repeat (first | exact Pull.head | apply Pull.tail))) | apply Pulls.skip)) ?_ ?_ ?_
  · intro l pre x suf gg hx hI w2
    simp at hx
  · intro dl gg hI
    refine WQ_code ?_
    refine WC_seq ?_
    refine WC_region ?_
    refine WL_val rfl rfl rfl (R_load rfl sc3 rfl (by repeat (first | exact List.Mem.head _ | refine List.Mem.tail _ ?_)) rfl) ?_
    refine WL_val rfl rfl rfl (R_assign rfl rfl) ?_
    refine WL_nil ?_
    refine WQ_code ?_
    refine WC_ret ?_
    refine WQ_retM rfl (by repeat (first | exact Pull.head | apply Pull.tail)) rfl (.cons (.tmp rfl) .nil) rfl (by
        exact ⟨by rw [hI]; rfl, rfl⟩) (by repeat (first | exact Pulls.nil | exact Pulls.all | (apply Pulls.cons; (repeat (first | exact Pull.head | apply Pull.tail))) | apply Pulls.skip))
  · intro dl c pre gx hIx
    exact hIx.elim
theorem len_zero (p : Nat) : Spec Try.prog 19 [ptr p] [⟨some p, cl [.slice none 0 0] 59⟩] (fun r H' => r = .int .i64 0 ∧ H' = [⟨some p, cl [.slice none 0 0] 59⟩]) := by
  refine Spec.ofM (E := [(0, ptr p)]) Try.func19 rfl (by kernel_rfl) Try.ntmps19 rfl rfl (fun w => ?_)
  refine WC_seq ?_
  refine WC_region ?_
  refine WL_val rfl rfl rfl (R_assign rfl rfl) ?_
  refine WL_nil ?_
  refine WQ_code ?_
  refine WC_seq ?_
  refine WC_region ?_
  refine WL_do rfl rfl rfl (D_alloc rfl zv3) ?_
  rintro _ _ ⟨b1, rfl, rfl⟩
  refine WL_do0 rfl rfl (D_store (vs := [_]) rfl Try.sizeOf3 rfl rfl rfl rfl rfl (by repeat (first | exact Pull.head | apply Pull.tail)) (by exact Nat.le_of_ble_eq_true rfl)) ?_
  rintro _ _ rfl
  refine WL_nil ?_
  refine WQ_code ?_
  refine WC_seq ?_
  refine WC_seq ?_
  refine WC_region ?_
  refine WL_val rfl rfl rfl (R_move rfl rfl) ?_
  refine WL_do rfl rfl rfl (D_call (all_zero p) rfl rfl rfl rfl (by repeat (first | exact Pulls.nil | exact Pulls.all | (apply Pulls.cons; (repeat (first | exact Pull.head | apply Pull.tail))) | apply Pulls.skip))) ?_
  rintro _ _ ⟨_, ⟨bc, rfl, rfl⟩, rfl⟩
  refine WL_nil ?_
  refine WQ_code ?_
  refine WC_block ?_
  refine WC_range (G := Nat) (GX := Unit) (iter_none bc) rfl rfl (fun _ => rfl) rfl (fun pre g => g = pre.length) (fun g => [⟨some b1, cl [.int .i64 (g : Int)] 3⟩]) (fun _ _ _ => False) (fun _ => []) (0) (rfl) (by repeat (first | exact Pulls.nil | exact Pulls.all | (apply Pulls.cons; (repeat (first | exact Pull.head | apply Pull.tail))) | apply Pulls.skip)) (by repeat (first | exact Pulls.nil | exact Pulls.all | (apply Pulls.cons; (repeat (first | exact Pull.head | apply Pull.tail))) | apply Pulls.skip)) ?_ ?_ ?_
  · intro l pre x suf gg hx hI w2
    simp at hx
  · intro dl gg hI
    refine WQ_code ?_
    refine WC_seq ?_
    refine WC_region ?_
    refine WL_val rfl rfl rfl (R_load rfl sc3 rfl (by repeat (first | exact List.Mem.head _ | refine List.Mem.tail _ ?_)) rfl) ?_
    refine WL_val rfl rfl rfl (R_assign rfl rfl) ?_
    refine WL_nil ?_
    refine WQ_code ?_
    refine WC_ret ?_
    refine WQ_retM rfl (by repeat (first | exact Pull.head | apply Pull.tail)) rfl (.cons (.tmp rfl) .nil) rfl (by
        exact ⟨by rw [hI]; rfl, rfl⟩) (by repeat (first | exact Pulls.nil | exact Pulls.all | (apply Pulls.cons; (repeat (first | exact Pull.head | apply Pull.tail))) | apply Pulls.skip))
  · intro dl c pre gx hIx
    exact hIx.elim

end Go.Proofs.Ytnolalkkdigcbaa
