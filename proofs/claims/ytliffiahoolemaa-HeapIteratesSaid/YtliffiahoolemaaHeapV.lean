/-
  Chapter 02 (heap), part HeapV: contracts of functions that the laws call, each for the heap it names.
-/
import Derived.Test.YtliffiahoolemaaRows
import Derived.Test.YtliffiahoolemaaSLPhase
import Derived.Test.YtliffiahoolemaaSLInt
import Derived.Test.YtliffiahoolemaaTab
import Derived.Test.YtliffiahoolemaaHeapF
import Derived.Test.YtliffiahoolemaaSLRange
import Derived.Test.YtliffiahoolemaaSLMarks
set_option linter.unusedVariables false
set_option maxRecDepth 20000
set_option maxHeartbeats 1000000
namespace Go.Proofs.Ytliffiahoolemaa


theorem lst_dec {α : Type} {l : List α} {k : Nat} {x : α} (h : l[k]? = some x) : l = l.take k ++ x :: l.drop (k + 1) := by
  obtain ⟨h2, rfl⟩ := List.getElem?_eq_some_iff.1 h
  rw [← List.drop_eq_getElem_cons h2, List.take_append_drop]
theorem lst_take {α : Type} {l : List α} {k : Nat} {x : α} (h : l[k]? = some x) : l.take (k + 1) = l.take k ++ [x] := by
  obtain ⟨h2, rfl⟩ := List.getElem?_eq_some_iff.1 h
  rw [List.take_append_getElem]

/-- slices.Values: an iterator over a list of numbers. -/
abbrev vitV (bb : Nat) : Value := .func (.func 51) #[] #[.pointer (some ⟨bb, 0, none⟩)]
abbrev vitH (bb : Nat) (ob : Option Nat) (n c : Nat) (l : List Nat) (tl : List Value) : Heap := [⟨some bb, cl [slV ob n c] 39⟩, ⟨ob, cl (ivn l ++ tl) 3⟩]
theorem vit_some (bb b n c : Nat) (l : List Nat) (tl : List Value) (hl : l.length = n) (hb : n ≤ 1000000) : IterSpec Try.prog 51 [.pointer (some ⟨bb, 0, none⟩)] (vitH bb (some b) n c l tl) encN l := by
  intro lp J Jx hY hj h0
  refine Spec.of (E := [(0, yieldV lp), (1, .pointer (some ⟨bb, 0, none⟩))]) Try.func51 rfl (by kernel_rfl) Try.ntmps51 rfl rfl (fun w => ?_)
  refine WC_seq ?_
  refine WC_region ?_
  refine WL_val rfl rfl rfl (R_load rfl sc39 rfl (by repeat (first | exact List.Mem.head _ | refine List.Mem.tail _ ?_)) rfl) ?_
  refine WL_val rfl rfl rfl (R_len rfl Try.underlying39 rfl) ?_
  refine WL_val rfl rfl rfl (R_move rfl rfl) ?_
  refine WL_nil ?_
  refine WQ_code ?_
  refine WC_block ?_
  refine WC_loopH (G := Nat × Heap) [4, 7, 8, 9, 10, 11, 12, 13, 14, 15] (fun g => g.1 ≤ n ∧ J (l.take g.1) g.2) (fun g => [(7, .int .i64 (g.1 : Int))]) (fun g => vitH bb (some b) n c l tl ++ g.2) (fun g => n - g.1) ((0, hj)) (⟨Nat.zero_le _, h0⟩) (Le.lq (by repeat (first | exact Le.nil | refine Le.cons rfl (by first | rfl | (congr 1; omega)) ?_))) (by repeat (first | exact Pulls.nil | exact Pulls.all | (apply Pulls.cons; (repeat (first | exact Pull.head | apply Pull.tail))) | apply Pulls.skip)) ?_
  rintro g ⟨hk, hJ⟩
  obtain ⟨k, hj⟩ := g
  simp only at hk hJ ⊢
  refine WC_seq ?_
  refine WC_region ?_
  refine WL_val rfl rfl rfl (R_lss rfl rfl rfl) ?_
  refine WL_nil ?_
  refine WQ_code ?_
  refine WC_seq ?_
  refine WC_dec rfl (fun c1 => ?_) (fun c1 => ?_)
  · refine WC_skip ?_
    refine WQ_code ?_
    refine WC_seq ?_
    refine WC_block ?_
    refine WC_seq ?_
    refine WC_region ?_
    obtain ⟨x, hx⟩ := exE (T := l) (i := k) (by omega)
    have hdec := lst_dec hx
    refine WL_val rfl rfl rfl (R_indexAddrN rfl Try.underlying39 Try.sizeOf3 rfl rfl (by omega)) ?_
    refine WL_val rfl rfl rfl (R_load (v := .int .i64 ((x : Nat) : Int)) rfl sc3 rfl (by repeat (first | exact List.Mem.head _ | refine List.Mem.tail _ ?_)) (fm_get0 encN1 hx (j := 0) (by omega))) ?_
    refine WL_val rfl rfl rfl (R_assign rfl rfl) ?_
    refine WL_nil ?_
    refine WQ_code ?_
    refine WC_seq ?_
    refine WC_region ?_
    refine WL_val rfl rfl rfl (R_move rfl rfl) ?_
    refine WL_val rfl rfl rfl (R_move rfl rfl) ?_
    refine WL_do rfl rfl rfl (D_yield (F := [_, _]) (hY (l.take k) x (l.drop (k + 1)) hj hdec hJ) rfl rfl rfl rfl (List.Perm.refl _)) ?_
    rintro _ _ ⟨hj2, (⟨rfl, hJ2⟩ | ⟨rfl, hJ2⟩), rfl⟩
    · refine WL_val rfl rfl rfl (R_not rfl rfl) ?_
      refine WL_nil ?_
      refine WQ_code ?_
      refine WC_F rfl ?_
      refine WC_skip ?_
      refine WQ_code ?_
      refine WC_region ?_
      refine WL_val rfl rfl rfl (R_add rfl rfl rfl (by omega)) ?_
      refine WL_val rfl rfl rfl (R_move rfl rfl) ?_
      refine WL_nil ?_
      refine WQ_nextH (gg := (k, hj)) ((k + 1, hj2)) (⟨by (show k + 1 ≤ n); omega, by (show J (l.take (k + 1)) _); rw [lst_take hx]; exact hJ2⟩) (by (show n - (k + 1) < n - k); omega) (Le.lq (by repeat (first | exact Le.nil | refine Le.cons rfl (by first | rfl | (congr 1; omega)) ?_))) (by repeat (first | exact Pushed.refl | refine Pushed.push rfl ?_)) rfl (by repeat (first | exact Pulls.nil | exact Pulls.all | (apply Pulls.cons; (repeat (first | exact Pull.head | apply Pull.tail))) | apply Pulls.skip))
    · refine WL_val rfl rfl rfl (R_not rfl rfl) ?_
      refine WL_nil ?_
      refine WQ_code ?_
      refine WC_T rfl ?_
      refine WC_ret ?_
      refine WQ_ret rfl rfl .nil rfl (by
          first | exact ⟨_, .inr ⟨_, hJ2⟩, rfl⟩ | (rw [show k = n from (by omega), ← hl, List.take_length] at hJ; exact ⟨_, .inl hJ, rfl⟩)) (by repeat (first | exact Pulls.nil | exact Pulls.all | (apply Pulls.cons; (repeat (first | exact Pull.head | apply Pull.tail))) | apply Pulls.skip))
  · refine WC_exit ?_
    refine WQ_ret rfl rfl .nil rfl (by
        first | exact ⟨_, .inr ⟨_, hJ2⟩, rfl⟩ | (rw [show k = n from (by omega), ← hl, List.take_length] at hJ; exact ⟨_, .inl hJ, rfl⟩)) (by repeat (first | exact Pulls.nil | exact Pulls.all | (apply Pulls.cons; (repeat (first | exact Pull.head | apply Pull.tail))) | apply Pulls.skip))
theorem vit_none (bb : Nat) (ob : Option Nat) (n c : Nat) (tl : List Value) (hn : n = 0) : IterSpec Try.prog 51 [.pointer (some ⟨bb, 0, none⟩)] (vitH bb ob n c [] tl) encN [] := by
  intro lp J Jx hY hj h0
  refine Spec.of (E := [(0, yieldV lp), (1, .pointer (some ⟨bb, 0, none⟩))]) Try.func51 rfl (by kernel_rfl) Try.ntmps51 rfl rfl (fun w => ?_)
  refine WC_seq ?_
  refine WC_region ?_
  refine WL_val rfl rfl rfl (R_load rfl sc39 rfl (by repeat (first | exact List.Mem.head _ | refine List.Mem.tail _ ?_)) rfl) ?_
  refine WL_val rfl rfl rfl (R_len rfl Try.underlying39 rfl) ?_
  refine WL_val rfl rfl rfl (R_move rfl rfl) ?_
  refine WL_nil ?_
  refine WQ_code ?_
  refine WC_block ?_
  refine WC_loopH (G := Unit) [4, 7, 8, 9, 10, 11, 12, 13, 14, 15] (fun g => True) (fun g => [(7, .int .i64 0)]) (fun g => vitH bb ob n c [] tl ++ hj) (fun g => 0) (()) (trivial) (Le.lq (by repeat (first | exact Le.nil | refine Le.cons rfl (by first | rfl | (congr 1; omega)) ?_))) (by repeat (first | exact Pulls.nil | exact Pulls.all | (apply Pulls.cons; (repeat (first | exact Pull.head | apply Pull.tail))) | apply Pulls.skip)) ?_
  rintro g -
  refine WC_seq ?_
  refine WC_region ?_
  refine WL_val rfl rfl rfl (R_lss rfl rfl rfl) ?_
  refine WL_nil ?_
  refine WQ_code ?_
  refine WC_seq ?_
  refine WC_dF rfl (by omega) ?_
  refine WC_exit ?_
  refine WQ_ret rfl rfl .nil rfl (by
      exact ⟨hj, .inl h0, rfl⟩) (by repeat (first | exact Pulls.nil | exact Pulls.all | (apply Pulls.cons; (repeat (first | exact Pull.head | apply Pull.tail))) | apply Pulls.skip))
theorem vit_ok (bb : Nat) (ob : Option Nat) (n c : Nat) (l : List Nat) (tl : List Value) (own : Own ob n c 1 (ivn l) tl) (hb : n ≤ 1000000) : IterSpec Try.prog 51 [.pointer (some ⟨bb, 0, none⟩)] (vitH bb ob n c l tl) encN l := by
  have hl := own.len
  rw [fm_length encN1, Nat.mul_one, Nat.mul_one] at hl
  cases l with
  | nil => exact vit_none bb ob n c tl (by simpa using hl.symm)
  | cons x l =>
    obtain ⟨b, rfl⟩ := own.some_of (by rw [← hl]; exact Nat.succ_pos _)
    exact vit_some bb b n c (x :: l) tl hl hb
theorem val_ok (ob : Option Nat) (n c : Nat) : Spec Try.prog 40 [slV ob n c] [] (fun r H' => ∃ bb, r = vitV bb ∧ H' = [⟨some bb, cl [slV ob n c] 39⟩]) := by
  refine Spec.of (E := [(0, slV ob n c)]) Try.func40 rfl (by kernel_rfl) Try.ntmps40 rfl rfl (fun w => ?_)
  refine WC_seq ?_
  refine WC_region ?_
  refine WL_do rfl rfl rfl (D_box (cs := [_]) rfl rfl rfl) ?_
  rintro _ _ ⟨b1, rfl, rfl⟩
  refine WL_val rfl rfl rfl (R_assign rfl rfl) ?_
  refine WL_nil ?_
  refine WQ_code ?_
  refine WC_seq ?_
  refine WC_region ?_
  refine WL_val rfl rfl rfl (R_makeFunc rfl rfl rfl) ?_
  refine WL_val rfl rfl rfl (R_assign rfl rfl) ?_
  refine WL_nil ?_
  refine WQ_code ?_
  refine WC_ret ?_
  refine WQ_ret rfl rfl (.cons (.tmp rfl) .nil) rfl (by
      exact ⟨_, rfl, rfl⟩) (by repeat (first | exact Pulls.nil | exact Pulls.all | (apply Pulls.cons; (repeat (first | exact Pull.head | apply Pull.tail))) | apply Pulls.skip))

end Go.Proofs.Ytliffiahoolemaa
