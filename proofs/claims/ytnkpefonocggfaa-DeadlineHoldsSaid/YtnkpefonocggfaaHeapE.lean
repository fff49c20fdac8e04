/-
  Chapter 10 (deadline), part HeapE: contracts of functions that the laws call, each for the heap it names.
-/
import Derived.Test.YtnkpefonocggfaaRows
import Derived.Test.YtnkpefonocggfaaSLPhase
import Derived.Test.YtnkpefonocggfaaSLInt
import Derived.Test.YtnkpefonocggfaaTab
import Derived.Test.YtnkpefonocggfaaHeapD
import Derived.Test.YtnkpefonocggfaaSLMore
set_option linter.unusedVariables false
set_option maxRecDepth 20000
set_option maxHeartbeats 4000000
namespace Go.Proofs.Ytnkpefonocggfaa


theorem oneN (l : List Nat) : (ivn l).all Value.oneCell' = true := fm_all (fun _ => rfl) l
theorem oneEl (E : List El) : (E.flatMap encEl).all Value.oneCell' = true := fm_all (fun _ => rfl) E
theorem hce_none : Spec Try.prog 87 [.slice none 0 0] [⟨none, cl [] 141⟩] (fun r H' => r = .slice none 0 0 ∧ H' = [⟨none, cl [] 141⟩, ⟨none, cl [] 141⟩]) := by
  refine Spec.of (E := [(0, .slice none 0 0)]) Try.func87 rfl (by kernel_rfl) Try.ntmps87 rfl rfl (fun w => ?_)
  refine WC_seq ?_
  refine WC_region ?_
  refine WL_val rfl rfl rfl (R_assign rfl rfl) ?_
  refine WL_nil ?_
  refine WQ_code ?_
  refine WC_seq ?_
  refine WC_seq ?_
  refine WC_region ?_
  refine WL_val rfl rfl rfl (R_move rfl rfl) ?_
  refine WL_val rfl rfl rfl (R_sliceEqNil rfl Try.underlying132 rfl) ?_
  refine WL_nil ?_
  refine WQ_code ?_
  refine WC_T rfl ?_
  refine WC_seq ?_
  refine WC_region ?_
  refine WL_val rfl rfl rfl (R_assign rfl rfl) ?_
  refine WL_nil ?_
  refine WQ_code ?_
  refine WC_ret ?_
  refine WQ_none 141 ?_
  refine WQ_ret rfl rfl (.cons (.tmp rfl) .nil) rfl (by
      exact ⟨rfl, rfl⟩) (by repeat (first | exact Pulls.nil | exact Pulls.all | (apply Pulls.cons; (repeat (first | exact Pull.head | apply Pull.tail))) | apply Pulls.skip))
theorem hce_some (b n c : Nat) (xs tl : List Value) (own : Own (some b) n c 4 xs tl) (h1 : xs.all Value.oneCell' = true) (hb : n ≤ 2000) : Spec Try.prog 87 [slV (some b) n c] [⟨some b, cl (xs ++ tl) 141⟩]
    (fun r H' => ∃ o2 c2 t2, r = slV o2 n c2 ∧ Own o2 n c2 4 xs t2 ∧ H' = [⟨o2, cl (xs ++ t2) 141⟩, ⟨some b, cl (xs ++ tl) 141⟩]) := by
  refine Spec.of (E := [(0, slV (some b) n c)]) Try.func87 rfl (by kernel_rfl) Try.ntmps87 rfl rfl (fun w => ?_)
  refine WC_seq ?_
  refine WC_region ?_
  refine WL_val rfl rfl rfl (R_assign rfl rfl) ?_
  refine WL_nil ?_
  refine WQ_code ?_
  refine WC_seq ?_
  refine WC_seq ?_
  refine WC_region ?_
  refine WL_val rfl rfl rfl (R_move rfl rfl) ?_
  refine WL_val rfl rfl rfl (R_sliceEqNil rfl Try.underlying132 rfl) ?_
  refine WL_nil ?_
  refine WQ_code ?_
  refine WC_F rfl ?_
  refine WC_skip ?_
  refine WQ_code ?_
  refine WC_seq ?_
  refine WC_region ?_
  refine WL_do rfl rfl rfl (D_buildSlice rfl si132 rfl rfl rfl) ?_
  rintro _ _ ⟨b1, rfl, rfl⟩
  refine WL_val rfl rfl rfl (R_move rfl rfl) ?_
  refine WL_do rfl rfl rfl (D_append rfl si132 rfl ((⟨by simp, by simp, by simp, by simp, fun h => by cases h⟩ : Own (some b1) 0 0 4 [] [])) (by repeat (first | exact Pull.head | apply Pull.tail)) rfl (by repeat (first | exact List.Mem.head _ | refine List.Mem.tail _ ?_)) ((fun j v hj => by rw [Nat.zero_add, List.getElem?_append_left (List.getElem?_eq_some_iff.1 hj).1]; exact hj : At (xs ++ tl) 0 xs)) (own.len) (h1) (by omega) (by omega)) ?_
  rintro _ _ ⟨ob2, cap2, tl2, rfl, own2, rfl⟩
  rw [Nat.zero_add, List.nil_append] at own2 ⊢
  refine WL_val rfl rfl rfl (R_assign rfl rfl) ?_
  refine WL_nil ?_
  refine WQ_code ?_
  refine WC_ret ?_
  refine WQ_ret rfl rfl (.cons (.tmp rfl) .nil) rfl (by
      exact ⟨ob2, cap2, tl2, rfl, own2, rfl⟩) (by repeat (first | exact Pulls.nil | exact Pulls.all | (apply Pulls.cons; (repeat (first | exact Pull.head | apply Pull.tail))) | apply Pulls.skip))
theorem hci_none : Spec Try.prog 68 [.slice none 0 0] [⟨none, cl [] 3⟩] (fun r H' => r = .slice none 0 0 ∧ H' = [⟨none, cl [] 3⟩, ⟨none, cl [] 3⟩]) := by
  refine Spec.of (E := [(0, .slice none 0 0)]) Try.func68 rfl (by kernel_rfl) Try.ntmps68 rfl rfl (fun w => ?_)
  refine WC_seq ?_
  refine WC_region ?_
  refine WL_val rfl rfl rfl (R_assign rfl rfl) ?_
  refine WL_nil ?_
  refine WQ_code ?_
  refine WC_seq ?_
  refine WC_seq ?_
  refine WC_region ?_
  refine WL_val rfl rfl rfl (R_move rfl rfl) ?_
  refine WL_val rfl rfl rfl (R_sliceEqNil rfl Try.underlying116 rfl) ?_
  refine WL_nil ?_
  refine WQ_code ?_
  refine WC_T rfl ?_
  refine WC_seq ?_
  refine WC_region ?_
  refine WL_val rfl rfl rfl (R_assign rfl rfl) ?_
  refine WL_nil ?_
  refine WQ_code ?_
  refine WC_ret ?_
  refine WQ_none 3 ?_
  refine WQ_ret rfl rfl (.cons (.tmp rfl) .nil) rfl (by
      exact ⟨rfl, rfl⟩) (by repeat (first | exact Pulls.nil | exact Pulls.all | (apply Pulls.cons; (repeat (first | exact Pull.head | apply Pull.tail))) | apply Pulls.skip))
theorem hci_some (b n c : Nat) (xs tl : List Value) (own : Own (some b) n c 1 xs tl) (h1 : xs.all Value.oneCell' = true) (hb : n ≤ 1000000) : Spec Try.prog 68 [slV (some b) n c] [⟨some b, cl (xs ++ tl) 3⟩]
    (fun r H' => ∃ o2 c2 t2, r = slV o2 n c2 ∧ Own o2 n c2 1 xs t2 ∧ H' = [⟨o2, cl (xs ++ t2) 3⟩, ⟨some b, cl (xs ++ tl) 3⟩]) := by
  refine Spec.of (E := [(0, slV (some b) n c)]) Try.func68 rfl (by kernel_rfl) Try.ntmps68 rfl rfl (fun w => ?_)
  refine WC_seq ?_
  refine WC_region ?_
  refine WL_val rfl rfl rfl (R_assign rfl rfl) ?_
  refine WL_nil ?_
  refine WQ_code ?_
  refine WC_seq ?_
  refine WC_seq ?_
  refine WC_region ?_
  refine WL_val rfl rfl rfl (R_move rfl rfl) ?_
  refine WL_val rfl rfl rfl (R_sliceEqNil rfl Try.underlying116 rfl) ?_
  refine WL_nil ?_
  refine WQ_code ?_
  refine WC_F rfl ?_
  refine WC_skip ?_
  refine WQ_code ?_
  refine WC_seq ?_
  refine WC_region ?_
  refine WL_do rfl rfl rfl (D_buildSlice rfl si116 rfl rfl rfl) ?_
  rintro _ _ ⟨b1, rfl, rfl⟩
  refine WL_val rfl rfl rfl (R_move rfl rfl) ?_
  refine WL_do rfl rfl rfl (D_append rfl si116 rfl ((⟨by simp, by simp, by simp, by simp, fun h => by cases h⟩ : Own (some b1) 0 0 1 [] [])) (by repeat (first | exact Pull.head | apply Pull.tail)) rfl (by repeat (first | exact List.Mem.head _ | refine List.Mem.tail _ ?_)) ((fun j v hj => by rw [Nat.zero_add, List.getElem?_append_left (List.getElem?_eq_some_iff.1 hj).1]; exact hj : At (xs ++ tl) 0 xs)) (own.len) (h1) (by omega) (by omega)) ?_
  rintro _ _ ⟨ob2, cap2, tl2, rfl, own2, rfl⟩
  rw [Nat.zero_add, List.nil_append] at own2 ⊢
  refine WL_val rfl rfl rfl (R_assign rfl rfl) ?_
  refine WL_nil ?_
  refine WQ_code ?_
  refine WC_ret ?_
  refine WQ_ret rfl rfl (.cons (.tmp rfl) .nil) rfl (by
      exact ⟨ob2, cap2, tl2, rfl, own2, rfl⟩) (by repeat (first | exact Pulls.nil | exact Pulls.all | (apply Pulls.cons; (repeat (first | exact Pull.head | apply Pull.tail))) | apply Pulls.skip))
theorem Own.void {n c sz : Nat} {xs tl : List Value} (h : Own none n c sz xs tl) : n = 0 ∧ c = 0 ∧ xs = [] ∧ tl = [] := by
  have h1 := h.nil rfl
  have h2 := h.le
  have h3 := h.cap
  rw [h1, Nat.zero_mul] at h3
  exact ⟨by omega, h1, List.eq_nil_of_length_eq_zero (by omega), List.eq_nil_of_length_eq_zero (by omega)⟩
theorem hce_ok (ob : Option Nat) (n c : Nat) (xs tl : List Value) (own : Own ob n c 4 xs tl) (h1 : xs.all Value.oneCell' = true) (hb : n ≤ 2000) : Spec Try.prog 87 [slV ob n c] [⟨ob, cl (xs ++ tl) 141⟩]
    (fun r H' => ∃ o2 c2 t2, r = slV o2 n c2 ∧ Own o2 n c2 4 xs t2 ∧ H' = [⟨o2, cl (xs ++ t2) 141⟩, ⟨ob, cl (xs ++ tl) 141⟩]) := by
  cases ob with
  | some b => exact hce_some b n c xs tl own h1 hb
  | none =>
    obtain ⟨rfl, rfl, rfl, rfl⟩ := own.void
    exact hce_none.mono fun r H' ⟨e1, e2⟩ => ⟨none, 0, [], e1, Own.empty 4, e2⟩
theorem hci_ok (ob : Option Nat) (n c : Nat) (xs tl : List Value) (own : Own ob n c 1 xs tl) (h1 : xs.all Value.oneCell' = true) (hb : n ≤ 1000000) : Spec Try.prog 68 [slV ob n c] [⟨ob, cl (xs ++ tl) 3⟩]
    (fun r H' => ∃ o2 c2 t2, r = slV o2 n c2 ∧ Own o2 n c2 1 xs t2 ∧ H' = [⟨o2, cl (xs ++ t2) 3⟩, ⟨ob, cl (xs ++ tl) 3⟩]) := by
  cases ob with
  | some b => exact hci_some b n c xs tl own h1 hb
  | none =>
    obtain ⟨rfl, rfl, rfl, rfl⟩ := own.void
    exact hci_none.mono fun r H' ⟨e1, e2⟩ => ⟨none, 0, [], e1, Own.empty 1, e2⟩
theorem HOk.cut {F : Nat → Nat} {m : Nat} {l l3 l4 : List Nat} {h : Nat} (o : HOk F m) (p4 : l4.Perm l3) (p3 : (l3 ++ [h]).Perm l) (hnl : l.length = m + 1) : HOk F l4.length := by
  have := p3.length_eq
  rw [List.length_append, List.length_singleton] at this
  rw [p4.length_eq, show l3.length = m from by omega]; exact o
theorem own_cut {bl : Nat} {m c : Nat} {l l3 l4 : List Nat} {h : Nat} {tl : List Value} (own : Own (some bl) (m + 1) c 1 (ivn l) tl) (p4 : l4.Perm l3) (p3 : (l3 ++ [h]).Perm l) (hnl : l.length = m + 1) : Own (some bl) m c 1 (ivn l4) (.int .i64 (h : Int) :: tl) := by
  have h1 := p3.length_eq
  have h2 := own.cap
  have h3 := own.le
  rw [List.length_append, List.length_singleton] at h1
  rw [fm_length encN1] at h2
  refine ⟨?_, ?_, by omega, own.big, fun e => by cases e⟩
  · rw [fm_length encN1, p4.length_eq]; omega
  · rw [fm_length encN1, p4.length_eq, List.length_cons]; omega
theorem hcopy_x (p bx : Nat) (oe : Option Nat) (ne ce : Nat) (te : List Value) (n : Nat) (ol : Option Nat) (nl c : Nat) (tl : List Value) (E : List El) (l : List Nat) (W : List WE) (hp : Hp W E l n) (hne : E.length = ne) (hnl : l.length = nl) (hoe : Own oe ne ce 4 (E.flatMap encEl) te) (hol : Own ol nl c 1 (ivn l) tl) : Spec Try.prog 67 [ptrH p] (hH p bx oe ne ce te n ol nl c tl E l) (fun r H' => ∃ g : HM, r = ptrH g.p ∧ H' = gH g ++ hH p bx oe ne ce te n ol nl c tl E l ∧ g.n = n ∧ HIs W g) := by
  have hec := hp.ecap
  have hcp := hp.cap
  refine Spec.of (E := [(0, ptrH p)]) Try.func67 rfl (by kernel_rfl) Try.ntmps67 rfl rfl (fun w => ?_)
  refine WC_seq ?_
  refine WC_region ?_
  refine WL_val rfl rfl rfl (R_assign rfl rfl) ?_
  refine WL_nil ?_
  refine WQ_code ?_
  refine WC_seq ?_
  refine WC_seq ?_
  refine WC_region ?_
  refine WL_val rfl rfl rfl (R_move rfl rfl) ?_
  refine WL_do rfl rfl rfl (D_call (hzero_ok p bx _ _ _ _ _ _ _) rfl rfl rfl rfl (by repeat (first | exact Pulls.nil | exact Pulls.all | (apply Pulls.cons; (repeat (first | exact Pull.head | apply Pull.tail))) | apply Pulls.skip))) ?_
  rintro _ _ ⟨_, ⟨rfl, rfl⟩, rfl⟩
  refine WL_nil ?_
  refine WQ_code ?_
  refine WC_F rfl ?_
  refine WC_skip ?_
  refine WQ_code ?_
  refine WC_seq ?_
  refine WC_draw _ [(0, true), (1, true), (2, true), (3, true), (5, true), (6, true), (7, true), (8, true), (4, false), (9, true), (10, false), (11, true)] followsMixed rfl rfl (by kernel_rfl) .all ?_
  refine WM_val rfl rfl rfl rfl (R_move rfl rfl) ?_
  refine WM_val rfl rfl rfl rfl (R_nilCheck rfl rfl) ?_
  refine WM_val rfl rfl rfl rfl (R_fieldAddr rfl fa138_1 rfl) ?_
  refine WM_val rfl rfl rfl rfl (R_load rfl sc132 rfl (by repeat (first | exact List.Mem.head _ | refine List.Mem.tail _ ?_)) rfl) ?_
  refine WM_val rfl rfl rfl rfl (R_move rfl rfl) ?_
  refine WM_val rfl rfl rfl rfl (R_nilCheck rfl rfl) ?_
  refine WM_val rfl rfl rfl rfl (R_fieldAddr rfl fa138_2 rfl) ?_
  refine WM_val rfl rfl rfl rfl (R_load rfl sc25 rfl (by repeat (first | exact List.Mem.head _ | refine List.Mem.tail _ ?_)) rfl) ?_
  refine WM_do rfl rfl rfl rfl (D_call (hce_ok oe ne ce (E.flatMap encEl) te hoe (oneEl E) (by omega)) rfl rfl rfl rfl (by repeat (first | exact Pulls.nil | exact Pulls.all | (apply Pulls.cons; (repeat (first | exact Pull.head | apply Pull.tail))) | apply Pulls.skip))) ?_
  rintro _ _ ⟨_, ⟨o2, c2, t2, rfl, own2, rfl⟩, rfl⟩
  refine ⟨⟨_, by repeat (first | exact Pulls.nil | exact Pulls.all | (apply Pulls.cons; (repeat (first | exact Pull.head | apply Pull.tail))) | apply Pulls.skip)⟩, ?_⟩
  refine WM_val rfl rfl rfl rfl (R_build rfl zv138 pl138 rfl rfl) ?_
  refine WM_do rfl rfl rfl rfl (D_box (cs := [_, _, _, _, _, _]) rfl rfl rfl) ?_
  rintro _ _ ⟨b1, rfl, rfl⟩
  refine ⟨⟨_, by repeat (first | exact Pulls.nil | exact Pulls.all | (apply Pulls.cons; (repeat (first | exact Pull.head | apply Pull.tail))) | apply Pulls.skip)⟩, ?_⟩
  refine WM_val rfl rfl rfl rfl (R_assign rfl rfl) ?_
  refine WM_nil ?_
  refine WQ_code ?_
  refine WC_seq ?_
  refine WC_region ?_
  refine WL_val rfl rfl rfl (R_move rfl rfl) ?_
  refine WL_val rfl rfl rfl (R_move rfl rfl) ?_
  refine WL_val rfl rfl rfl (R_nilCheck rfl rfl) ?_
  refine WL_val rfl rfl rfl (R_fieldAddr rfl fa138_3 rfl) ?_
  refine WL_val rfl rfl rfl (R_fieldAddr rfl fa136_0 rfl) ?_
  refine WL_val rfl rfl rfl (R_load rfl sc116 rfl (by repeat (first | exact List.Mem.head _ | refine List.Mem.tail _ ?_)) rfl) ?_
  refine WL_do rfl rfl rfl (D_call (hci_ok ol nl c (ivn l) tl hol (oneN l) (by omega)) rfl rfl rfl rfl (by repeat (first | exact Pulls.nil | exact Pulls.all | (apply Pulls.cons; (repeat (first | exact Pull.head | apply Pull.tail))) | apply Pulls.skip))) ?_
  rintro _ _ ⟨_, ⟨o3, c3, t3, rfl, own3, rfl⟩, rfl⟩
  refine WL_val rfl rfl rfl (R_nilCheck rfl rfl) ?_
  refine WL_val rfl rfl rfl (R_fieldAddr rfl fa138_3 rfl) ?_
  refine WL_val rfl rfl rfl (R_fieldAddr rfl fa136_0 rfl) ?_
  refine WL_do0 rfl rfl (D_store (vs := [_]) rfl Try.sizeOf116 rfl rfl rfl rfl rfl (by repeat (first | exact Pull.head | apply Pull.tail)) (by exact Nat.le_of_ble_eq_true rfl)) ?_
  rintro _ _ rfl
  refine WL_nil ?_
  refine WQ_code ?_
  refine WC_seq ?_
  refine WC_region ?_
  refine WL_val rfl rfl rfl (R_move rfl rfl) ?_
  refine WL_do rfl rfl rfl (D_call (hbind_ok _ _ _ _ _ _ _) rfl rfl rfl rfl (by repeat (first | exact Pulls.nil | exact Pulls.all | (apply Pulls.cons; (repeat (first | exact Pull.head | apply Pull.tail))) | apply Pulls.skip))) ?_
  rintro _ _ ⟨_, ⟨bx2, rfl, rfl⟩, rfl⟩
  refine WL_nil ?_
  refine WQ_code ?_
  refine WC_seq ?_
  refine WC_region ?_
  refine WL_val rfl rfl rfl (R_move rfl rfl) ?_
  refine WL_val rfl rfl rfl (R_assign rfl rfl) ?_
  refine WL_nil ?_
  refine WQ_code ?_
  refine WC_ret ?_
  refine WQ_ret rfl rfl (.cons (.tmp rfl) .nil) rfl (by
      exact ⟨⟨_, bx2, o2, ne, c2, t2, n, o3, nl, c3, t3, E, l⟩, rfl, rfl, rfl, ⟨hp, hne, hnl, own2, own3⟩⟩) (by repeat (first | exact Pulls.nil | exact Pulls.all | (apply Pulls.cons; (repeat (first | exact Pull.head | apply Pull.tail))) | apply Pulls.skip))
theorem hrem_none (p bx : Nat) (oe : Option Nat) (ne ce : Nat) (te : List Value) (n : Nat) (ol : Option Nat) (nl c : Nat) (tl : List Value) (E : List El) (l : List Nat) (W : List WE) (hp : Hp W E l n) (hne : E.length = ne) (hnl : l.length = nl) (hoe : Own oe ne ce 4 (E.flatMap encEl) te) (hol : Own ol nl c 1 (ivn l) tl) (i : Int) (hd : ∀ h : Nat, i = (h : Int) → h ∉ l) : Spec Try.prog 60 [ptrH p, .int .i64 i] (hH p bx oe ne ce te n ol nl c tl E l) (fun r H' => r = .int .i64 9 ∧ H' = hH p bx oe ne ce te n ol nl c tl E l) := by
  refine Spec.of (E := [(0, ptrH p), (1, .int .i64 i)]) Try.func60 rfl (by kernel_rfl) Try.ntmps60 rfl rfl (fun w => ?_)
  refine WC_seq ?_
  refine WC_region ?_
  refine WL_val rfl rfl rfl (R_assign rfl rfl) ?_
  refine WL_nil ?_
  refine WQ_code ?_
  refine WC_seq ?_
  refine WC_block ?_
  refine WC_seq ?_
  refine WC_region ?_
  refine WL_val rfl rfl rfl (R_move rfl rfl) ?_
  refine WL_do rfl rfl rfl (D_call (hzero_ok p bx _ _ _ _ _ _ _) rfl rfl rfl rfl (by repeat (first | exact Pulls.nil | exact Pulls.all | (apply Pulls.cons; (repeat (first | exact Pull.head | apply Pull.tail))) | apply Pulls.skip))) ?_
  rintro _ _ ⟨_, ⟨rfl, rfl⟩, rfl⟩
  refine WL_val rfl rfl rfl (R_assign rfl rfl) ?_
  refine WL_nil ?_
  refine WQ_code ?_
  refine WC_F rfl ?_
  refine WC_seq ?_
  refine WC_region ?_
  refine WL_val rfl rfl rfl (R_move rfl rfl) ?_
  refine WL_val rfl rfl rfl (R_move rfl rfl) ?_
  refine WL_do rfl rfl rfl (D_call (hhas_x p bx oe ne ce te n ol nl c tl E l W hp hne hnl hoe hol i false (by simp; exact fun h e => hd h e)) rfl rfl rfl rfl (by repeat (first | exact Pulls.nil | exact Pulls.all | (apply Pulls.cons; (repeat (first | exact Pull.head | apply Pull.tail))) | apply Pulls.skip))) ?_
  rintro _ _ ⟨_, ⟨rfl, rfl⟩, rfl⟩
  refine WL_val rfl rfl rfl (R_not rfl rfl) ?_
  refine WL_val rfl rfl rfl (R_assign rfl rfl) ?_
  refine WL_nil ?_
  refine WQ_code ?_
  refine WC_T rfl ?_
  refine WC_seq ?_
  refine WC_region ?_
  refine WL_val rfl rfl rfl (R_assign rfl rfl) ?_
  refine WL_nil ?_
  refine WQ_code ?_
  refine WC_ret ?_
  refine WQ_ret rfl rfl (.cons (.tmp rfl) .nil) rfl (by
      exact ⟨rfl, rfl⟩) (by repeat (first | exact Pulls.nil | exact Pulls.all | (apply Pulls.cons; (repeat (first | exact Pull.head | apply Pull.tail))) | apply Pulls.skip))
theorem hrem_x (p bx : Nat) (oe : Option Nat) (ne ce : Nat) (te : List Value) (n : Nat) (ol : Option Nat) (nl c : Nat) (tl : List Value) (E : List El) (l : List Nat) (W : List WE) (hp : Hp W E l n) (hne : E.length = ne) (hnl : l.length = nl) (hoe : Own oe ne ce 4 (E.flatMap encEl) te) (hol : Own ol nl c 1 (ivn l) tl) (h : Nat) (hd : h ∈ l) : Spec Try.prog 60 [ptrH p, .int .i64 (h : Int)] (hH p bx oe ne ce te n ol nl c tl E l)
    (fun r H' => ∃ g : HM, r = .int .i64 0 ∧ H' = gH g ∧ g.p = p ∧ g.n = n ∧ HIs (wremove W h) g) := by
  obtain ⟨w0, x, hw0, hwh, hx, _⟩ := hp.in hd
  obtain ⟨i, px, hi, hil⟩ := hp.at hx hd
  have hcp := hp.cap
  obtain ⟨m, hm⟩ : ∃ m, nl = m + 1 := ⟨nl - 1, by omega⟩
  subst hm
  obtain ⟨be, rfl⟩ := hoe.some_of (show 0 < ne by have := (List.getElem?_eq_some_iff.1 hx).1; omega)
  obtain ⟨bl, rfl⟩ := hol.some_of (show 0 < m + 1 by omega)
  refine Spec.of (E := [(0, ptrH p), (1, .int .i64 (h : Int))]) Try.func60 rfl (by kernel_rfl) Try.ntmps60 rfl rfl (fun w => ?_)
  refine WC_seq ?_
  refine WC_region ?_
  refine WL_val rfl rfl rfl (R_assign rfl rfl) ?_
  refine WL_nil ?_
  refine WQ_code ?_
  refine WC_seq ?_
  refine WC_block ?_
  refine WC_seq ?_
  refine WC_region ?_
  refine WL_val rfl rfl rfl (R_move rfl rfl) ?_
  refine WL_do rfl rfl rfl (D_call (hzero_ok p bx _ _ _ _ _ _ _) rfl rfl rfl rfl (by repeat (first | exact Pulls.nil | exact Pulls.all | (apply Pulls.cons; (repeat (first | exact Pull.head | apply Pull.tail))) | apply Pulls.skip))) ?_
  rintro _ _ ⟨_, ⟨rfl, rfl⟩, rfl⟩
  refine WL_val rfl rfl rfl (R_assign rfl rfl) ?_
  refine WL_nil ?_
  refine WQ_code ?_
  refine WC_F rfl ?_
  refine WC_seq ?_
  refine WC_region ?_
  refine WL_val rfl rfl rfl (R_move rfl rfl) ?_
  refine WL_val rfl rfl rfl (R_move rfl rfl) ?_
  refine WL_do rfl rfl rfl (D_call (hhas_x p bx (some be) ne ce te n (some bl) (m + 1) c tl E l W hp hne hnl hoe hol (h : Int) true ⟨fun _ => ⟨h, rfl, hd⟩, fun _ => rfl⟩) rfl rfl rfl rfl (by repeat (first | exact Pulls.nil | exact Pulls.all | (apply Pulls.cons; (repeat (first | exact Pull.head | apply Pull.tail))) | apply Pulls.skip))) ?_
  rintro _ _ ⟨_, ⟨rfl, rfl⟩, rfl⟩
  refine WL_val rfl rfl rfl (R_not rfl rfl) ?_
  refine WL_val rfl rfl rfl (R_assign rfl rfl) ?_
  refine WL_nil ?_
  refine WQ_code ?_
  refine WC_F rfl ?_
  refine WC_skip ?_
  refine WQ_code ?_
  refine WC_seq ?_
  refine WC_drawE [⟨some p, _⟩, ⟨some be, _⟩, ⟨some bl, _⟩] [(0, false), (1, false), (2, false), (3, false), (4, false), (5, false), (6, true), (7, false), (8, false), (9, false), (10, true)] [(11, false)] followsMixed rfl rfl (by kernel_rfl) (by repeat (first | exact Pulls.nil | exact Pulls.all | (apply Pulls.cons; (repeat (first | exact Pull.head | apply Pull.tail))) | apply Pulls.skip)) ?_
  refine WZ_val rfl rfl rfl rfl (R_move rfl rfl) ?_
  refine WZ_val rfl rfl rfl rfl (R_nilCheck rfl rfl) ?_
  refine WZ_val rfl rfl rfl rfl (R_fieldAddr rfl fa138_3 rfl) ?_
  refine WZ_val rfl rfl rfl rfl (R_move rfl rfl) ?_
  refine WZ_val rfl rfl rfl rfl (R_nilCheck rfl rfl) ?_
  refine WZ_val rfl rfl rfl rfl (R_fieldAddr rfl fa138_1 rfl) ?_
  refine WZ_early rfl rfl rfl rfl (R_load rfl sc132 rfl (by repeat (first | exact List.Mem.head _ | refine List.Mem.tail _ ?_)) rfl) ?_
  refine WZ_val rfl rfl rfl rfl (R_move rfl rfl) ?_
  refine WZ_val rfl rfl rfl rfl (R_indexAddrN rfl Try.underlying132 Try.sizeOf141 rfl rfl (by have := (List.getElem?_eq_some_iff.1 hx).1; omega)) ?_
  refine WZ_val rfl rfl rfl rfl (R_fieldAddr rfl fa141_3 rfl) ?_
  refine WZ_early rfl rfl rfl rfl (R_load (v := .int .i64 (i : Int)) rfl sc3 rfl (by repeat (first | exact List.Mem.head _ | refine List.Mem.tail _ ?_)) ((fm_get0 encEl4 hx (j := 3) (by omega)).trans (congrArg (fun q => some (Value.int .i64 q)) px))) ?_
  refine WZ_rest ?_
  refine WM_do rfl rfl rfl rfl (D_call (qcut_ok p bx be ne ce te n bl (m + 1) c tl E l hp.st hp.ord hne m hnl rfl (by omega) hol.le i h hi) rfl rfl rfl rfl (by repeat (first | exact Pulls.nil | exact Pulls.all | (apply Pulls.cons; (repeat (first | exact Pull.head | apply Pull.tail))) | apply Pulls.skip))) ?_
  rintro _ _ ⟨_, ⟨E2, E3, l3, l4, rfl, rfl, s2, pp2, s3, p4, o4⟩, rfl⟩
  refine ⟨⟨_, by repeat (first | exact Pulls.nil | exact Pulls.all | (apply Pulls.cons; (repeat (first | exact Pull.head | apply Pull.tail))) | apply Pulls.skip)⟩, ?_⟩
  refine WM_nil ?_
  refine WQ_code ?_
  refine WC_seq ?_
  refine WC_region ?_
  obtain ⟨x2, hx2, _⟩ := s2.same h x hx
  obtain ⟨x3, hx3, _⟩ := s3.same h x2 hx2
  refine WL_val rfl rfl rfl (R_move rfl rfl) ?_
  refine WL_val rfl rfl rfl (R_nilCheck rfl rfl) ?_
  refine WL_val rfl rfl rfl (R_fieldAddr rfl fa138_1 rfl) ?_
  refine WL_val rfl rfl rfl (R_load rfl sc132 rfl (by repeat (first | exact List.Mem.head _ | refine List.Mem.tail _ ?_)) rfl) ?_
  refine WL_val rfl rfl rfl (R_move rfl rfl) ?_
  refine WL_val rfl rfl rfl (R_indexAddrN rfl Try.underlying132 Try.sizeOf141 rfl rfl (by have := (List.getElem?_eq_some_iff.1 hx).1; omega)) ?_
  refine WL_val rfl rfl rfl (R_fieldAddr rfl fa141_3 rfl) ?_
  refine WL_do0 rfl rfl (D_store (vs := [_]) rfl Try.sizeOf3 rfl rfl rfl rfl rfl (by repeat (first | exact Pull.head | apply Pull.tail)) (by exact fm_room0 encEl4 (List.getElem?_eq_some_iff.1 hx3).1 (j := 3) (by omega))) ?_
  rintro _ _ rfl
  have hput := fm_put0 encEl4 ({ x3 with pos := -1 } : El) hx3 (j := 3) (vs := [.int .i64 (-1)]) (by simp) rfl (tl := te)
  rw [hput, setp_of hx3 (-1)]
  refine WL_nil ?_
  refine WQ_code ?_
  refine WC_seq ?_
  refine WC_region ?_
  refine WL_val rfl rfl rfl (R_assign rfl rfl) ?_
  refine WL_nil ?_
  refine WQ_code ?_
  refine WC_ret ?_
  refine WQ_ret rfl rfl (.cons (.tmp rfl) .nil) rfl (by
      exact ⟨⟨p, bx, some be, ne, ce, te, n, some bl, m, c, .int .i64 (h : Int) :: tl, setp E3 h (-1), l4⟩, rfl, rfl, rfl, rfl, ⟨hp.remove hd s2 pp2 s3 p4 (o4.cut p4 pp2 hnl), by dsimp only; rw [setp_len, s3.len, s2.len]; exact hne, by dsimp only; have := pp2.length_eq; rw [List.length_append, List.length_singleton] at this; rw [p4.length_eq]; omega, hoe.like (by simp only [fm_length encEl4, setp_len, s3.len, s2.len]), own_cut hol p4 pp2 hnl⟩⟩) (by repeat (first | exact Pulls.nil | exact Pulls.all | (apply Pulls.cons; (repeat (first | exact Pull.head | apply Pull.tail))) | apply Pulls.skip))

end Go.Proofs.Ytnkpefonocggfaa
