/-
  Chapter 10 (deadline), part HeapD: contracts of functions that the laws call, each for the heap it names.
-/
import Derived.Test.YtnkpefonocggfaaRows
import Derived.Test.YtnkpefonocggfaaSLPhase
import Derived.Test.YtnkpefonocggfaaSLInt
import Derived.Test.YtnkpefonocggfaaTab
import Derived.Test.YtnkpefonocggfaaHeapC
set_option linter.unusedVariables false
set_option maxRecDepth 20000
set_option maxHeartbeats 4000000
namespace Go.Proofs.Ytnkpefonocggfaa


abbrev hH (p bx : Nat) (oe : Option Nat) (ne ce : Nat) (te : List Value) (n : Nat) (ol : Option Nat) (nl c : Nat) (tl : List Value) (E : List El) (l : List Nat) : Heap := [⟨some p, cl (hC bx oe ne ce n ol nl c) 138⟩, ⟨some bx, cl [ptrH p] 114⟩, ⟨oe, cl (E.flatMap encEl ++ te) 141⟩, ⟨ol, cl (ivn l ++ tl) 3⟩]
structure HM where
  p : Nat
  bx : Nat
  oe : Option Nat
  ne : Nat
  ce : Nat
  te : List Value
  n : Nat
  ol : Option Nat
  nl : Nat
  c : Nat
  tl : List Value
  E : List El
  l : List Nat
abbrev gH (g : HM) : Heap := hH g.p g.bx g.oe g.ne g.ce g.te g.n g.ol g.nl g.c g.tl g.E g.l
structure HIs (W : List WE) (g : HM) : Prop where
  hp : Hp W g.E g.l g.n
  ne : g.E.length = g.ne
  nl : g.l.length = g.nl
  oe : Own g.oe g.ne g.ce 4 (g.E.flatMap encEl) g.te
  ol : Own g.ol g.nl g.c 1 (ivn g.l) g.tl
theorem hzero_ok (p bx : Nat) (oe : Option Nat) (ne ce n : Nat) (ol : Option Nat) (nl c : Nat) : Spec Try.prog 70 [ptrH p] [⟨some p, cl (hC bx oe ne ce n ol nl c) 138⟩] (fun r H' => r = .bool false ∧ H' = [⟨some p, cl (hC bx oe ne ce n ol nl c) 138⟩]) := by
  refine Spec.of (E := [(0, ptrH p)]) Try.func70 rfl (by kernel_rfl) Try.ntmps70 rfl rfl (fun w => ?_)
  refine WC_seq ?_
  refine WC_region ?_
  refine WL_val rfl rfl rfl (R_assign rfl rfl) ?_
  refine WL_nil ?_
  refine WQ_code ?_
  refine WC_seq ?_
  refine WC_region ?_
  refine WL_val rfl rfl rfl (R_move rfl rfl) ?_
  refine WL_val rfl rfl rfl (R_ptrEqNil rfl Try.underlying114 rfl) ?_
  refine WL_val rfl rfl rfl (R_move rfl rfl) ?_
  refine WL_val rfl rfl rfl (R_move rfl rfl) ?_
  refine WL_val rfl rfl rfl (R_nilCheck rfl rfl) ?_
  refine WL_val rfl rfl rfl (R_fieldAddr rfl fa138_0 rfl) ?_
  refine WL_val rfl rfl rfl (R_load rfl sc4 rfl (by repeat (first | exact List.Mem.head _ | refine List.Mem.tail _ ?_)) rfl) ?_
  refine WL_set (s := 9) (v := .bool true) rfl (by rfl) ?_
  refine WL_val rfl rfl rfl (R_not rfl rfl) ?_
  refine WL_val rfl rfl rfl (R_pickF rfl rfl rfl) ?_
  refine WL_val rfl rfl rfl (R_assign rfl rfl) ?_
  refine WL_nil ?_
  refine WQ_code ?_
  refine WC_ret ?_
  refine WQ_ret rfl rfl (.cons (.tmp rfl) .nil) rfl (by
      exact ⟨rfl, rfl⟩) (by repeat (first | exact Pulls.nil | exact Pulls.all | (apply Pulls.cons; (repeat (first | exact Pull.head | apply Pull.tail))) | apply Pulls.skip))
theorem hzero_nil : Spec Try.prog 70 [.pointer none] [] (fun r H' => r = .bool true ∧ H' = []) := by
  refine Spec.of (E := [(0, .pointer none)]) Try.func70 rfl (by kernel_rfl) Try.ntmps70 rfl rfl (fun w => ?_)
  refine WC_seq ?_
  refine WC_region ?_
  refine WL_val rfl rfl rfl (R_assign rfl rfl) ?_
  refine WL_nil ?_
  refine WQ_code ?_
  refine WC_seq ?_
  refine WC_region ?_
  refine WL_val rfl rfl rfl (R_move rfl rfl) ?_
  refine WL_val rfl rfl rfl (R_ptrEqNil rfl Try.underlying114 rfl) ?_
  refine WL_val rfl rfl rfl (R_move rfl rfl) ?_
  refine WL_skip rfl rfl rfl ?_
  refine WL_skip rfl rfl rfl ?_
  refine WL_skip rfl rfl rfl ?_
  refine WL_skip rfl rfl rfl ?_
  refine WL_skip rfl rfl rfl ?_
  refine WL_val rfl rfl rfl (R_pickT rfl rfl rfl) ?_
  refine WL_val rfl rfl rfl (R_assign rfl rfl) ?_
  refine WL_nil ?_
  refine WQ_code ?_
  refine WC_ret ?_
  refine WQ_ret rfl rfl (.cons (.tmp rfl) .nil) rfl (by
      exact ⟨rfl, rfl⟩) (by repeat (first | exact Pulls.nil | exact Pulls.all | (apply Pulls.cons; (repeat (first | exact Pull.head | apply Pull.tail))) | apply Pulls.skip))
theorem hbind_ok (p : Nat) (a b cc : Value) (d e f : Value) : Spec Try.prog 69 [ptrH p] [⟨some p, cl [a, b, cc, d, e, f] 138⟩] (fun r H' => ∃ bx, r = .tuple #[] ∧ H' = [⟨some p, cl [a, b, cc, d, .func (.func 88) #[] #[ptrH bx], .func (.func 89) #[] #[ptrH bx]] 138⟩, ⟨some bx, cl [ptrH p] 114⟩]) := by
  refine Spec.of (E := [(0, ptrH p)]) Try.func69 rfl (by kernel_rfl) Try.ntmps69 rfl rfl (fun w => ?_)
  refine WC_seq ?_
  refine WC_region ?_
  refine WL_do rfl rfl rfl (D_box (cs := [_]) rfl rfl rfl) ?_
  rintro _ _ ⟨b1, rfl, rfl⟩
  refine WL_nil ?_
  refine WQ_code ?_
  refine WC_seq ?_
  refine WC_region ?_
  refine WL_val rfl rfl rfl (R_load rfl sc114 rfl (by repeat (first | exact List.Mem.head _ | refine List.Mem.tail _ ?_)) rfl) ?_
  refine WL_val rfl rfl rfl (R_makeFunc rfl rfl rfl) ?_
  refine WL_val rfl rfl rfl (R_nilCheck rfl rfl) ?_
  refine WL_val rfl rfl rfl (R_fieldAddr rfl fa138_3 rfl) ?_
  refine WL_val rfl rfl rfl (R_fieldAddr rfl fa136_1 rfl) ?_
  refine WL_do0 rfl rfl (D_store (vs := [_]) rfl Try.sizeOf133 rfl rfl rfl rfl rfl (by repeat (first | exact Pull.head | apply Pull.tail)) (by exact Nat.le_of_ble_eq_true rfl)) ?_
  rintro _ _ rfl
  refine WL_nil ?_
  refine WQ_code ?_
  refine WC_region ?_
  refine WL_val rfl rfl rfl (R_load rfl sc114 rfl (by repeat (first | exact List.Mem.head _ | refine List.Mem.tail _ ?_)) rfl) ?_
  refine WL_val rfl rfl rfl (R_makeFunc rfl rfl rfl) ?_
  refine WL_val rfl rfl rfl (R_nilCheck rfl rfl) ?_
  refine WL_val rfl rfl rfl (R_fieldAddr rfl fa138_3 rfl) ?_
  refine WL_val rfl rfl rfl (R_fieldAddr rfl fa136_2 rfl) ?_
  refine WL_do0 rfl rfl (D_store (vs := [_]) rfl Try.sizeOf134 rfl rfl rfl rfl rfl (by repeat (first | exact Pull.head | apply Pull.tail)) (by exact Nat.le_of_ble_eq_true rfl)) ?_
  rintro _ _ rfl
  refine WL_nil ?_
  refine WQ_ret rfl rfl .nil rfl (by
      exact ⟨b1, rfl, rfl⟩) (by repeat (first | exact Pulls.nil | exact Pulls.all | (apply Pulls.cons; (repeat (first | exact Pull.head | apply Pull.tail))) | apply Pulls.skip))
theorem hnew_x : Spec Try.prog 55 [] [] (fun r H' => ∃ p bx, r = ptrH p ∧ H' = hH p bx none 0 0 [] 0 none 0 0 [] [] []) := by
  refine Spec.of (E := []) Try.func55 rfl (by kernel_rfl) Try.ntmps55 rfl rfl (fun w => ?_)
  refine WC_seq ?_
  refine WC_region ?_
  refine WL_val rfl rfl rfl (R_assign rfl rfl) ?_
  refine WL_nil ?_
  refine WQ_code ?_
  refine WC_seq ?_
  refine WC_region ?_
  refine WL_val rfl rfl rfl (R_build rfl zv138 pl138 rfl rfl) ?_
  refine WL_do rfl rfl rfl (D_box (cs := [_, _, _, _, _, _]) rfl rfl rfl) ?_
  rintro _ _ ⟨b1, rfl, rfl⟩
  refine WL_val rfl rfl rfl (R_assign rfl rfl) ?_
  refine WL_nil ?_
  refine WQ_code ?_
  refine WC_seq ?_
  refine WC_region ?_
  refine WL_val rfl rfl rfl (R_move rfl rfl) ?_
  refine WL_do rfl rfl rfl (D_call (hbind_ok _ _ _ _ _ _ _) rfl rfl rfl rfl (by repeat (first | exact Pulls.nil | exact Pulls.all | (apply Pulls.cons; (repeat (first | exact Pull.head | apply Pull.tail))) | apply Pulls.skip))) ?_
  rintro _ _ ⟨_, ⟨bx, rfl, rfl⟩, rfl⟩
  refine WL_nil ?_
  refine WQ_code ?_
  refine WC_seq ?_
  refine WC_region ?_
  refine WL_val rfl rfl rfl (R_move rfl rfl) ?_
  refine WL_val rfl rfl rfl (R_assign rfl rfl) ?_
  refine WL_nil ?_
  refine WQ_code ?_
  refine WC_ret ?_
  refine WQ_none 141 (WQ_none 3 ?_)
  refine WQ_ret rfl rfl (.cons (.tmp rfl) .nil) rfl (by
      exact ⟨_, bx, rfl, rfl⟩) (by repeat (first | exact Pulls.nil | exact Pulls.all | (apply Pulls.cons; (repeat (first | exact Pull.head | apply Pull.tail))) | apply Pulls.skip))
theorem htop_none (p bx : Nat) (oe : Option Nat) (ne ce : Nat) (te : List Value) (n : Nat) (ol : Option Nat) (nl c : Nat) (tl : List Value) (E : List El) (l : List Nat) (h0 : nl = 0) : Spec Try.prog 57 [ptrH p] (hH p bx oe ne ce te n ol nl c tl E l) (fun r H' => r = .tuple #[.int .i64 0, .int .i64 9] ∧ H' = hH p bx oe ne ce te n ol nl c tl E l) := by
  refine Spec.of (E := [(0, ptrH p)]) Try.func57 rfl (by kernel_rfl) Try.ntmps57 rfl rfl (fun w => ?_)
  refine WC_seq ?_
  refine WC_region ?_
  refine WL_val rfl rfl rfl (R_assign rfl rfl) ?_
  refine WL_val rfl rfl rfl (R_assign rfl rfl) ?_
  refine WL_nil ?_
  refine WQ_code ?_
  refine WC_seq ?_
  refine WC_block ?_
  refine WC_seq ?_
  refine WC_region ?_
  refine WL_val rfl rfl rfl (R_move rfl rfl) ?_
  refine WL_do rfl rfl rfl (D_call (hzero_ok p bx _ _ _ _ _ _ _) rfl rfl rfl rfl (by repeat (first | exact Pulls.nil | exact Pulls.all | (apply Pulls.cons; (repeat (first | exact Pull.head | apply Pull.tail))) | apply Pulls.skip))) ?_
  rintro _ _ ⟨_, ⟨rfl, rfl⟩, rfl⟩
  refine WL_val rfl rfl rfl (R_assign rfl rfl) ?_
  refine WL_nil ?_
  refine WQ_code ?_
  refine WC_F rfl ?_
  refine WC_seq ?_
  refine WC_region ?_
  refine WL_val rfl rfl rfl (R_move rfl rfl) ?_
  refine WL_val rfl rfl rfl (R_nilCheck rfl rfl) ?_
  refine WL_val rfl rfl rfl (R_fieldAddr rfl fa138_3 rfl) ?_
  refine WL_val rfl rfl rfl (R_fieldAddr rfl fa136_0 rfl) ?_
  refine WL_val rfl rfl rfl (R_load rfl sc116 rfl (by repeat (first | exact List.Mem.head _ | refine List.Mem.tail _ ?_)) rfl) ?_
  refine WL_val rfl rfl rfl (R_len rfl Try.underlying116 rfl) ?_
  refine WL_val rfl rfl rfl (R_eql rfl rfl rfl) ?_
  refine WL_val rfl rfl rfl (R_assign rfl rfl) ?_
  refine WL_nil ?_
  refine WQ_code ?_
  refine WC_dT rfl (by omega) ?_
  refine WC_seq ?_
  refine WC_region ?_
  refine WL_val rfl rfl rfl (R_assign rfl rfl) ?_
  refine WL_val rfl rfl rfl (R_assign rfl rfl) ?_
  refine WL_nil ?_
  refine WQ_code ?_
  refine WC_ret ?_
  refine WQ_ret rfl rfl (.cons (.tmp rfl) (.cons (.tmp rfl) .nil)) rfl (by
      exact ⟨rfl, rfl⟩) (by repeat (first | exact Pulls.nil | exact Pulls.all | (apply Pulls.cons; (repeat (first | exact Pull.head | apply Pull.tail))) | apply Pulls.skip))
theorem htop_x (p bx : Nat) (oe : Option Nat) (ne ce : Nat) (te : List Value) (n : Nat) (ol : Option Nat) (nl c : Nat) (tl : List Value) (E : List El) (l : List Nat) (W : List WE) (hp : Hp W E l n) (hne : E.length = ne) (hnl : l.length = nl) (hoe : Own oe ne ce 4 (E.flatMap encEl) te) (hol : Own ol nl c 1 (ivn l) tl) (h : Nat) (hh : l[0]? = some h) : Spec Try.prog 57 [ptrH p] (hH p bx oe ne ce te n ol nl c tl E l) (fun r H' => r = .tuple #[.int .i64 (h : Int), .int .i64 0] ∧ H' = hH p bx oe ne ce te n ol nl c tl E l) := by
  have hpos : 0 < nl := by rw [← hnl]; exact (List.getElem?_eq_some_iff.1 hh).1
  obtain ⟨bl, rfl⟩ := hol.some_of hpos
  refine Spec.of (E := [(0, ptrH p)]) Try.func57 rfl (by kernel_rfl) Try.ntmps57 rfl rfl (fun w => ?_)
  refine WC_seq ?_
  refine WC_region ?_
  refine WL_val rfl rfl rfl (R_assign rfl rfl) ?_
  refine WL_val rfl rfl rfl (R_assign rfl rfl) ?_
  refine WL_nil ?_
  refine WQ_code ?_
  refine WC_seq ?_
  refine WC_block ?_
  refine WC_seq ?_
  refine WC_region ?_
  refine WL_val rfl rfl rfl (R_move rfl rfl) ?_
  refine WL_do rfl rfl rfl (D_call (hzero_ok p bx _ _ _ _ _ _ _) rfl rfl rfl rfl (by repeat (first | exact Pulls.nil | exact Pulls.all | (apply Pulls.cons; (repeat (first | exact Pull.head | apply Pull.tail))) | apply Pulls.skip))) ?_
  rintro _ _ ⟨_, ⟨rfl, rfl⟩, rfl⟩
  refine WL_val rfl rfl rfl (R_assign rfl rfl) ?_
  refine WL_nil ?_
  refine WQ_code ?_
  refine WC_F rfl ?_
  refine WC_seq ?_
  refine WC_region ?_
  refine WL_val rfl rfl rfl (R_move rfl rfl) ?_
  refine WL_val rfl rfl rfl (R_nilCheck rfl rfl) ?_
  refine WL_val rfl rfl rfl (R_fieldAddr rfl fa138_3 rfl) ?_
  refine WL_val rfl rfl rfl (R_fieldAddr rfl fa136_0 rfl) ?_
  refine WL_val rfl rfl rfl (R_load rfl sc116 rfl (by repeat (first | exact List.Mem.head _ | refine List.Mem.tail _ ?_)) rfl) ?_
  refine WL_val rfl rfl rfl (R_len rfl Try.underlying116 rfl) ?_
  refine WL_val rfl rfl rfl (R_eql rfl rfl rfl) ?_
  refine WL_val rfl rfl rfl (R_assign rfl rfl) ?_
  refine WL_nil ?_
  refine WQ_code ?_
  refine WC_dF rfl (by omega) ?_
  refine WC_skip ?_
  refine WQ_code ?_
  refine WC_seq ?_
  refine WC_region ?_
  refine WL_val rfl rfl rfl (R_move rfl rfl) ?_
  refine WL_val rfl rfl rfl (R_nilCheck rfl rfl) ?_
  refine WL_val rfl rfl rfl (R_fieldAddr rfl fa138_3 rfl) ?_
  refine WL_val rfl rfl rfl (R_fieldAddr rfl fa136_0 rfl) ?_
  refine WL_val rfl rfl rfl (R_load rfl sc116 rfl (by repeat (first | exact List.Mem.head _ | refine List.Mem.tail _ ?_)) rfl) ?_
  refine WL_val rfl rfl rfl (R_indexAddrN rfl Try.underlying116 Try.sizeOf3 rfl rfl (by omega)) ?_
  refine WL_val rfl rfl rfl (R_load (v := .int .i64 ((h : Nat) : Int)) rfl sc3 rfl (by repeat (first | exact List.Mem.head _ | refine List.Mem.tail _ ?_)) (fm_get0 encN1 hh (j := 0) (by omega))) ?_
  refine WL_val rfl rfl rfl (R_assign rfl rfl) ?_
  refine WL_val rfl rfl rfl (R_assign rfl rfl) ?_
  refine WL_nil ?_
  refine WQ_code ?_
  refine WC_ret ?_
  refine WQ_ret rfl rfl (.cons (.tmp rfl) (.cons (.tmp rfl) .nil)) rfl (by
      exact ⟨rfl, rfl⟩) (by repeat (first | exact Pulls.nil | exact Pulls.all | (apply Pulls.cons; (repeat (first | exact Pull.head | apply Pull.tail))) | apply Pulls.skip))
theorem hhas_x (p bx : Nat) (oe : Option Nat) (ne ce : Nat) (te : List Value) (n : Nat) (ol : Option Nat) (nl c : Nat) (tl : List Value) (E : List El) (l : List Nat) (W : List WE) (hp : Hp W E l n) (hne : E.length = ne) (hnl : l.length = nl) (hoe : Own oe ne ce 4 (E.flatMap encEl) te) (hol : Own ol nl c 1 (ivn l) tl) (i : Int) (d : Bool) (hd : d = true ↔ ∃ h : Nat, i = (h : Int) ∧ h ∈ l) : Spec Try.prog 71 [ptrH p, .int .i64 i] (hH p bx oe ne ce te n ol nl c tl E l) (fun r H' => r = .bool d ∧ H' = hH p bx oe ne ce te n ol nl c tl E l) := by
  have hout : ∀ h : Nat, i = (h : Int) → ne ≤ h → d = false := fun h e1 e2 => by
    cases d with
    | false => rfl
    | true =>
      obtain ⟨h2, e3, e4⟩ := hd.1 rfl
      exact absurd e4 (hp.below2 (by omega))
  have hneg : i < 0 → d = false := fun h0 => by
    cases d with
    | false => rfl
    | true =>
      obtain ⟨h2, e3, e4⟩ := hd.1 rfl
      omega
  refine Spec.of (E := [(0, ptrH p), (1, .int .i64 i)]) Try.func71 rfl (by kernel_rfl) Try.ntmps71 rfl rfl (fun w => ?_)
  refine WC_seq ?_
  refine WC_region ?_
  refine WL_val rfl rfl rfl (R_assign rfl rfl) ?_
  refine WL_nil ?_
  refine WQ_code ?_
  refine WC_seq ?_
  refine WC_region ?_
  refine WL_val rfl rfl rfl (R_move rfl rfl) ?_
  refine WL_val rfl rfl rfl (R_geq rfl rfl rfl) ?_
  refine WL_val rfl rfl rfl (R_move rfl rfl) ?_
  refine WL_splitD (s := 7) rfl (fun c1 => ?_) (fun c1 => ?_)
  · have h7 : i ≥ 0 := c1
    obtain ⟨h, rfl⟩ := Int.eq_ofNat_of_zero_le h7
    refine WL_val rfl rfl rfl (R_move rfl rfl) ?_
    refine WL_val rfl rfl rfl (R_move rfl rfl) ?_
    refine WL_val rfl rfl rfl (R_nilCheck rfl rfl) ?_
    refine WL_val rfl rfl rfl (R_fieldAddr rfl fa138_1 rfl) ?_
    refine WL_val rfl rfl rfl (R_load rfl sc132 rfl (by repeat (first | exact List.Mem.head _ | refine List.Mem.tail _ ?_)) rfl) ?_
    refine WL_val rfl rfl rfl (R_len rfl Try.underlying132 rfl) ?_
    refine WL_val rfl rfl rfl (R_lss rfl rfl rfl) ?_
    refine WL_val rfl rfl rfl (R_pickT rfl rfl rfl) ?_
    refine WL_val rfl rfl rfl (R_move rfl rfl) ?_
    refine WL_splitD (s := 16) rfl (fun c2 => ?_) (fun c2 => ?_)
    · have h16 : ((h : Nat) : Int) < (ne : Nat) := c2
      obtain ⟨x, hx⟩ := exE (T := E) (i := h) (by omega)
      obtain ⟨be, rfl⟩ := hoe.some_of (by omega)
      refine WL_val rfl rfl rfl (R_move rfl rfl) ?_
      refine WL_val rfl rfl rfl (R_nilCheck rfl rfl) ?_
      refine WL_val rfl rfl rfl (R_fieldAddr rfl fa138_1 rfl) ?_
      refine WL_val rfl rfl rfl (R_load rfl sc132 rfl (by repeat (first | exact List.Mem.head _ | refine List.Mem.tail _ ?_)) rfl) ?_
      refine WL_val rfl rfl rfl (R_move rfl rfl) ?_
      refine WL_val rfl rfl rfl (R_indexAddrN rfl Try.underlying132 Try.sizeOf141 rfl rfl (by omega)) ?_
      refine WL_val rfl rfl rfl (R_fieldAddr rfl fa141_3 rfl) ?_
      refine WL_val rfl rfl rfl (R_load (v := .int .i64 x.pos) rfl sc3 rfl (by repeat (first | exact List.Mem.head _ | refine List.Mem.tail _ ?_)) (fm_get0 encEl4 hx (j := 3) (by omega))) ?_
      refine WL_val rfl rfl rfl (R_geq rfl rfl rfl) ?_
      refine WL_val rfl rfl rfl (R_pickT rfl rfl rfl) ?_
      refine WL_val rfl rfl rfl (R_assign rfl rfl) ?_
      refine WL_nil ?_
      refine WQ_code ?_
      refine WC_ret ?_
      refine WQ_ret rfl rfl (.cons (.tmp rfl) .nil) rfl (by
          exact ⟨congrArg Value.bool (by rw [Bool.eq_iff_iff, decide_eq_true_iff, hd]; exact (hp.has hx).trans ⟨fun e => ⟨h, rfl, e⟩, fun ⟨h2, e1, e2⟩ => by obtain rfl : h = h2 := (by omega); exact e2⟩), rfl⟩) (by repeat (first | exact Pulls.nil | exact Pulls.all | (apply Pulls.cons; (repeat (first | exact Pull.head | apply Pull.tail))) | apply Pulls.skip))
    · have h16 : ¬ ((h : Nat) : Int) < (ne : Nat) := c2
      refine WL_skip rfl rfl rfl ?_
      refine WL_skip rfl rfl rfl ?_
      refine WL_skip rfl rfl rfl ?_
      refine WL_skip rfl rfl rfl ?_
      refine WL_skip rfl rfl rfl ?_
      refine WL_skip rfl rfl rfl ?_
      refine WL_skip rfl rfl rfl ?_
      refine WL_skip rfl rfl rfl ?_
      refine WL_skip rfl rfl rfl ?_
      refine WL_val rfl rfl rfl (R_pickF rfl rfl rfl) ?_
      refine WL_val rfl rfl rfl (R_assign rfl rfl) ?_
      refine WL_nil ?_
      refine WQ_code ?_
      refine WC_ret ?_
      refine WQ_ret rfl rfl (.cons (.tmp rfl) .nil) rfl (by
          exact ⟨by rw [hout h rfl (by omega)]; rfl, rfl⟩) (by repeat (first | exact Pulls.nil | exact Pulls.all | (apply Pulls.cons; (repeat (first | exact Pull.head | apply Pull.tail))) | apply Pulls.skip))
  · have h7 : ¬ i ≥ 0 := c1
    refine WL_skip rfl rfl rfl ?_
    refine WL_skip rfl rfl rfl ?_
    refine WL_skip rfl rfl rfl ?_
    refine WL_skip rfl rfl rfl ?_
    refine WL_skip rfl rfl rfl ?_
    refine WL_skip rfl rfl rfl ?_
    refine WL_skip rfl rfl rfl ?_
    refine WL_val rfl rfl rfl (R_pickF rfl rfl rfl) ?_
    refine WL_val rfl rfl rfl (R_move rfl rfl) ?_
    refine WL_skip rfl rfl rfl ?_
    refine WL_skip rfl rfl rfl ?_
    refine WL_skip rfl rfl rfl ?_
    refine WL_skip rfl rfl rfl ?_
    refine WL_skip rfl rfl rfl ?_
    refine WL_skip rfl rfl rfl ?_
    refine WL_skip rfl rfl rfl ?_
    refine WL_skip rfl rfl rfl ?_
    refine WL_skip rfl rfl rfl ?_
    refine WL_val rfl rfl rfl (R_pickF rfl rfl rfl) ?_
    refine WL_val rfl rfl rfl (R_assign rfl rfl) ?_
    refine WL_nil ?_
    refine WQ_code ?_
    refine WC_ret ?_
    refine WQ_ret rfl rfl (.cons (.tmp rfl) .nil) rfl (by
        exact ⟨by rw [hneg (by omega)]; rfl, rfl⟩) (by repeat (first | exact Pulls.nil | exact Pulls.all | (apply Pulls.cons; (repeat (first | exact Pull.head | apply Pull.tail))) | apply Pulls.skip))
theorem hget_none (p bx : Nat) (oe : Option Nat) (ne ce : Nat) (te : List Value) (n : Nat) (ol : Option Nat) (nl c : Nat) (tl : List Value) (E : List El) (l : List Nat) (W : List WE) (hp : Hp W E l n) (hne : E.length = ne) (hnl : l.length = nl) (hoe : Own oe ne ce 4 (E.flatMap encEl) te) (hol : Own ol nl c 1 (ivn l) tl) (i : Int) (hd : ∀ h : Nat, i = (h : Int) → h ∉ l) : Spec Try.prog 58 [ptrH p, .int .i64 i] (hH p bx oe ne ce te n ol nl c tl E l) (fun r H' => r = .tuple #[.int .u64 0, .int .i64 0, .int .i64 9] ∧ H' = hH p bx oe ne ce te n ol nl c tl E l) := by
  refine Spec.of (E := [(0, ptrH p), (1, .int .i64 i)]) Try.func58 rfl (by kernel_rfl) Try.ntmps58 rfl rfl (fun w => ?_)
  refine WC_seq ?_
  refine WC_region ?_
  refine WL_val rfl rfl rfl (R_assign rfl rfl) ?_
  refine WL_val rfl rfl rfl (R_assign rfl rfl) ?_
  refine WL_val rfl rfl rfl (R_assign rfl rfl) ?_
  refine WL_nil ?_
  refine WQ_code ?_
  refine WC_seq ?_
  refine WC_block ?_
  refine WC_seq ?_
  refine WC_region ?_
  refine WL_val rfl rfl rfl (R_move rfl rfl) ?_
  refine WL_do rfl rfl rfl (D_call (hzero_ok p bx _ _ _ _ _ _ _) rfl rfl rfl rfl (by repeat (first | exact Pulls.nil | exact Pulls.all | (apply Pulls.cons; (repeat (first | exact Pull.head | apply Pull.tail))) | apply Pulls.skip))) ?_
  rintro _ _ ⟨_, ⟨rfl, rfl⟩, rfl⟩
  refine WL_val rfl rfl rfl (R_assign rfl rfl) ?_
  refine WL_nil ?_
  refine WQ_code ?_
  refine WC_F rfl ?_
  refine WC_seq ?_
  refine WC_region ?_
  refine WL_val rfl rfl rfl (R_move rfl rfl) ?_
  refine WL_val rfl rfl rfl (R_move rfl rfl) ?_
  refine WL_do rfl rfl rfl (D_call (hhas_x p bx oe ne ce te n ol nl c tl E l W hp hne hnl hoe hol i false (by simp; exact fun h e => hd h e)) rfl rfl rfl rfl (by repeat (first | exact Pulls.nil | exact Pulls.all | (apply Pulls.cons; (repeat (first | exact Pull.head | apply Pull.tail))) | apply Pulls.skip))) ?_
  rintro _ _ ⟨_, ⟨rfl, rfl⟩, rfl⟩
  refine WL_val rfl rfl rfl (R_not rfl rfl) ?_
  refine WL_val rfl rfl rfl (R_assign rfl rfl) ?_
  refine WL_nil ?_
  refine WQ_code ?_
  refine WC_T rfl ?_
  refine WC_seq ?_
  refine WC_region ?_
  refine WL_val rfl rfl rfl (R_assign rfl rfl) ?_
  refine WL_val rfl rfl rfl (R_assign rfl rfl) ?_
  refine WL_val rfl rfl rfl (R_assign rfl rfl) ?_
  refine WL_nil ?_
  refine WQ_code ?_
  refine WC_ret ?_
  refine WQ_ret rfl rfl (.cons (.tmp rfl) (.cons (.tmp rfl) (.cons (.tmp rfl) .nil))) rfl (by
      exact ⟨rfl, rfl⟩) (by repeat (first | exact Pulls.nil | exact Pulls.all | (apply Pulls.cons; (repeat (first | exact Pull.head | apply Pull.tail))) | apply Pulls.skip))
theorem hget_x (p bx : Nat) (oe : Option Nat) (ne ce : Nat) (te : List Value) (n : Nat) (ol : Option Nat) (nl c : Nat) (tl : List Value) (E : List El) (l : List Nat) (W : List WE) (hp : Hp W E l n) (hne : E.length = ne) (hnl : l.length = nl) (hoe : Own oe ne ce 4 (E.flatMap encEl) te) (hol : Own ol nl c 1 (ivn l) tl) (h : Nat) (hd : h ∈ l) (x : El) (hx : E[h]? = some x) : Spec Try.prog 58 [ptrH p, .int .i64 (h : Int)] (hH p bx oe ne ce te n ol nl c tl E l) (fun r H' => r = .tuple #[.int .u64 (x.key : Int), .int .i64 x.value, .int .i64 0] ∧ H' = hH p bx oe ne ce te n ol nl c tl E l) := by
  have hlt := (List.getElem?_eq_some_iff.1 hx).1
  obtain ⟨be, rfl⟩ := hoe.some_of (by omega)
  refine Spec.of (E := [(0, ptrH p), (1, .int .i64 (h : Int))]) Try.func58 rfl (by kernel_rfl) Try.ntmps58 rfl rfl (fun w => ?_)
  refine WC_seq ?_
  refine WC_region ?_
  refine WL_val rfl rfl rfl (R_assign rfl rfl) ?_
  refine WL_val rfl rfl rfl (R_assign rfl rfl) ?_
  refine WL_val rfl rfl rfl (R_assign rfl rfl) ?_
  refine WL_nil ?_
  refine WQ_code ?_
  refine WC_seq ?_
  refine WC_block ?_
  refine WC_seq ?_
  refine WC_region ?_
  refine WL_val rfl rfl rfl (R_move rfl rfl) ?_
  refine WL_do rfl rfl rfl (D_call (hzero_ok p bx _ _ _ _ _ _ _) rfl rfl rfl rfl (by repeat (first | exact Pulls.nil | exact Pulls.all | (apply Pulls.cons; (repeat (first | exact Pull.head | apply Pull.tail))) | apply Pulls.skip))) ?_
  rintro _ _ ⟨_, ⟨rfl, rfl⟩, rfl⟩
  refine WL_val rfl rfl rfl (R_assign rfl rfl) ?_
  refine WL_nil ?_
  refine WQ_code ?_
  refine WC_F rfl ?_
  refine WC_seq ?_
  refine WC_region ?_
  refine WL_val rfl rfl rfl (R_move rfl rfl) ?_
  refine WL_val rfl rfl rfl (R_move rfl rfl) ?_
  refine WL_do rfl rfl rfl (D_call (hhas_x p bx (some be) ne ce te n ol nl c tl E l W hp hne hnl hoe hol (h : Int) true ⟨fun _ => ⟨h, rfl, hd⟩, fun _ => rfl⟩) rfl rfl rfl rfl (by repeat (first | exact Pulls.nil | exact Pulls.all | (apply Pulls.cons; (repeat (first | exact Pull.head | apply Pull.tail))) | apply Pulls.skip))) ?_
  rintro _ _ ⟨_, ⟨rfl, rfl⟩, rfl⟩
  refine WL_val rfl rfl rfl (R_not rfl rfl) ?_
  refine WL_val rfl rfl rfl (R_assign rfl rfl) ?_
  refine WL_nil ?_
  refine WQ_code ?_
  refine WC_F rfl ?_
  refine WC_skip ?_
  refine WQ_code ?_
  refine WC_seq ?_
  refine WC_region ?_
  refine WL_val rfl rfl rfl (R_move rfl rfl) ?_
  refine WL_val rfl rfl rfl (R_nilCheck rfl rfl) ?_
  refine WL_val rfl rfl rfl (R_fieldAddr rfl fa138_1 rfl) ?_
  refine WL_val rfl rfl rfl (R_load rfl sc132 rfl (by repeat (first | exact List.Mem.head _ | refine List.Mem.tail _ ?_)) rfl) ?_
  refine WL_val rfl rfl rfl (R_move rfl rfl) ?_
  refine WL_val rfl rfl rfl (R_indexAddrN rfl Try.underlying132 Try.sizeOf141 rfl rfl (by omega)) ?_
  refine WL_val rfl rfl rfl (R_loadA (vs := encEl x) rfl ag141 rfl (by repeat (first | exact List.Mem.head _ | refine List.Mem.tail _ ?_)) rfl (fm_at0 encEl4 hx (j := 0) (vs := encEl x) (fun j v h => by rw [Nat.zero_add]; exact h) (Nat.le_refl 4))) ?_
  refine WL_do rfl rfl rfl (D_alloc rfl zv141) ?_
  rintro _ _ ⟨b1, rfl, rfl⟩
  refine WL_do0 rfl rfl (D_store (vs := [_, _, _, _]) rfl Try.sizeOf141 rfl rfl rfl rfl rfl (by repeat (first | exact Pull.head | apply Pull.tail)) (by exact Nat.le_of_ble_eq_true rfl)) ?_
  rintro _ _ rfl
  refine WL_nil ?_
  refine WQ_code ?_
  refine WC_seq ?_
  refine WC_draw _ [(0, true), (1, true), (2, true), (3, true), (4, true), (5, true), (6, true)] followsMixed rfl rfl (by kernel_rfl) .all ?_
  refine WM_val rfl rfl rfl rfl (R_fieldAddr rfl fa141_0 rfl) ?_
  refine WM_val rfl rfl rfl rfl (R_load rfl sc26 rfl (by repeat (first | exact List.Mem.head _ | refine List.Mem.tail _ ?_)) rfl) ?_
  refine WM_val rfl rfl rfl rfl (R_fieldAddr rfl fa141_1 rfl) ?_
  refine WM_val rfl rfl rfl rfl (R_load rfl sc3 rfl (by repeat (first | exact List.Mem.head _ | refine List.Mem.tail _ ?_)) rfl) ?_
  refine WM_val rfl rfl rfl rfl (R_assign rfl rfl) ?_
  refine WM_val rfl rfl rfl rfl (R_assign rfl rfl) ?_
  refine WM_val rfl rfl rfl rfl (R_assign rfl rfl) ?_
  refine WM_nil ?_
  refine WQ_code ?_
  refine WC_ret ?_
  refine WQ_ret rfl rfl (.cons (.tmp rfl) (.cons (.tmp rfl) (.cons (.tmp rfl) .nil))) rfl (by
      exact ⟨rfl, rfl⟩) (by repeat (first | exact Pulls.nil | exact Pulls.all | (apply Pulls.cons; (repeat (first | exact Pull.head | apply Pull.tail))) | apply Pulls.skip))
theorem hpf_ok (x : El) : Spec Try.prog 74 [.agg #[.int .u64 (x.key : Int), .int .i64 x.value, .int .u64 (x.seq : Int), .int .i64 x.pos]] [] (fun r H' => r = .bool (decide (x.pos < 0)) ∧ H' = []) := by
  refine Spec.of (E := [(0, .agg #[.int .u64 (x.key : Int), .int .i64 x.value, .int .u64 (x.seq : Int), .int .i64 x.pos])]) Try.func74 rfl (by kernel_rfl) Try.ntmps74 rfl rfl (fun w => ?_)
  refine WC_seq ?_
  refine WC_region ?_
  refine WL_do rfl rfl rfl (D_box (cs := [_, _, _, _]) rfl rfl rfl) ?_
  rintro _ _ ⟨b1, rfl, rfl⟩
  refine WL_val rfl rfl rfl (R_assign rfl rfl) ?_
  refine WL_nil ?_
  refine WQ_code ?_
  refine WC_seq ?_
  refine WC_region ?_
  refine WL_val rfl rfl rfl (R_fieldAddr rfl fa141_3 rfl) ?_
  refine WL_val rfl rfl rfl (R_load rfl sc3 rfl (by repeat (first | exact List.Mem.head _ | refine List.Mem.tail _ ?_)) rfl) ?_
  refine WL_val rfl rfl rfl (R_lss rfl rfl rfl) ?_
  refine WL_val rfl rfl rfl (R_assign rfl rfl) ?_
  refine WL_nil ?_
  refine WQ_code ?_
  refine WC_ret ?_
  refine WQ_ret rfl rfl (.cons (.tmp rfl) .nil) rfl (by
      exact ⟨rfl, rfl⟩) (by repeat (first | exact Pulls.nil | exact Pulls.all | (apply Pulls.cons; (repeat (first | exact Pull.head | apply Pull.tail))) | apply Pulls.skip))
theorem fr_stop {E : List El} {k : Nat} {x : El} (hx : E[k]? = some x) (hk : k ≤ fr E) (h : x.pos < 0) : fr E = k := by
  rcases Nat.lt_or_ge k (fr E) with h1 | h1
  · have := List.not_of_lt_findIdx h1
    obtain ⟨hlt, rfl⟩ := List.getElem?_eq_some_iff.1 hx
    simp at this
    omega
  · omega
theorem fr_next {E : List El} {k : Nat} {x : El} (hx : E[k]? = some x) (hk : k ≤ fr E) (h : ¬ x.pos < 0) : k + 1 ≤ fr E := by
  rcases Nat.lt_or_ge k (fr E) with h1 | h1
  · exact h1
  · exfalso
    obtain ⟨hlt, rfl⟩ := List.getElem?_eq_some_iff.1 hx
    have e : k = fr E := by omega
    subst e
    have := List.findIdx_getElem (w := hlt)
    simp only [decide_eq_true_eq] at this
    exact h this
theorem hidx_ok (oe : Option Nat) (ne ce : Nat) (te : List Value) (E : List El) (hne : E.length = ne) (hoe : Own oe ne ce 4 (E.flatMap encEl) te) : Spec Try.prog 73 [slV oe ne ce, .func (.func 74) #[] #[]] [⟨oe, cl (E.flatMap encEl ++ te) 141⟩]
    (fun r H' => ∃ i : Int, r = .int .i64 i ∧ (i = (fr E : Int) ∧ fr E < ne ∨ i = -1 ∧ fr E = ne) ∧ H' = [⟨oe, cl (E.flatMap encEl ++ te) 141⟩]) := by
  have hbg := hoe.big
  have hle := hoe.le
  refine Spec.of (E := [(0, slV oe ne ce), (1, .func (.func 74) #[] #[])]) Try.func73 rfl (by kernel_rfl) Try.ntmps73 rfl rfl (fun w => ?_)
  refine WC_seq ?_
  refine WC_region ?_
  refine WL_val rfl rfl rfl (R_assign rfl rfl) ?_
  refine WL_nil ?_
  refine WQ_code ?_
  refine WC_seq ?_
  refine WC_seq ?_
  refine WC_region ?_
  refine WL_val rfl rfl rfl (R_move rfl rfl) ?_
  refine WL_val rfl rfl rfl (R_len rfl Try.underlying132 rfl) ?_
  refine WL_val rfl rfl rfl (R_move rfl rfl) ?_
  refine WL_nil ?_
  refine WQ_code ?_
  refine WC_block ?_
  refine WC_loopF (G := Nat) [4, 5, 8, 9, 10, 11, 12, 13, 14, 15, 16, 17, 18] (fun j => j ≤ ne ∧ j ≤ fr E) (fun j => [(8, .int .i64 (j : Int))]) (fun j => []) (fun j => ne - j) (0) (⟨Nat.zero_le _, Nat.zero_le _⟩) (Le.lq (by repeat (first | exact Le.nil | refine Le.cons rfl (by first | rfl | (congr 1; omega)) ?_))) (by repeat (first | exact Pulls.nil | exact Pulls.all | (apply Pulls.cons; (repeat (first | exact Pull.head | apply Pull.tail))) | apply Pulls.skip)) ?_
  rintro j ⟨hj, hjf⟩
  refine WC_seq ?_
  refine WC_region ?_
  refine WL_val rfl rfl rfl (R_lss rfl rfl rfl) ?_
  refine WL_nil ?_
  refine WQ_code ?_
  refine WC_seq ?_
  refine WC_dec rfl (fun c1 => ?_) (fun c1 => ?_)
  · refine WC_skip ?_
    refine WQ_code ?_
    refine WC_seq ?_
    refine WC_block ?_
    refine WC_seq ?_
    refine WC_region ?_
    refine WL_val rfl rfl rfl (R_move rfl rfl) ?_
    refine WL_val rfl rfl rfl (R_assign rfl rfl) ?_
    refine WL_nil ?_
    refine WQ_code ?_
    refine WC_seq ?_
    refine WC_region ?_
    refine WL_val rfl rfl rfl (R_move rfl rfl) ?_
    refine WL_val rfl rfl rfl (R_move rfl rfl) ?_
    refine WL_val rfl rfl rfl (R_move rfl rfl) ?_
    obtain ⟨x, hx⟩ := exE (T := E) (i := j) (by omega)
    obtain ⟨be, hbe⟩ := hoe.some_of (by omega)
    rw [hbe]
    refine WL_val rfl rfl rfl (R_indexAddrN rfl Try.underlying132 Try.sizeOf141 rfl rfl (by omega)) ?_
    refine WL_val rfl rfl rfl (R_loadA (vs := encEl x) rfl ag141 rfl (by repeat (first | exact List.Mem.head _ | refine List.Mem.tail _ ?_)) rfl (fm_at0 encEl4 hx (j := 0) (vs := encEl x) (fun j v h => by rw [Nat.zero_add]; exact h) (Nat.le_refl 4))) ?_
    refine WL_do rfl rfl rfl (D_call (hpf_ok x) rfl rfl rfl rfl (by repeat (first | exact Pulls.nil | exact Pulls.all | (apply Pulls.cons; (repeat (first | exact Pull.head | apply Pull.tail))) | apply Pulls.skip))) ?_
    rintro _ _ ⟨_, ⟨rfl, rfl⟩, rfl⟩
    refine WL_nil ?_
    refine WQ_code ?_
    refine WC_dec rfl (fun c2 => ?_) (fun c2 => ?_)
    · have hlt : x.pos < 0 := c2
      refine WC_seq ?_
      refine WC_region ?_
      refine WL_val rfl rfl rfl (R_move rfl rfl) ?_
      refine WL_val rfl rfl rfl (R_assign rfl rfl) ?_
      refine WL_nil ?_
      refine WQ_code ?_
      refine WC_ret ?_
      refine WQ_ret rfl rfl (.cons (.tmp rfl) .nil) rfl (by
          exact ⟨_, rfl, .inl ⟨by rw [fr_stop hx hjf hlt], by rw [fr_stop hx hjf hlt]; omega⟩, rfl⟩) (by repeat (first | exact Pulls.nil | exact Pulls.all | (apply Pulls.cons; (repeat (first | exact Pull.head | apply Pull.tail))) | apply Pulls.skip))
    · have hge : ¬ x.pos < 0 := c2
      refine WC_skip ?_
      refine WQ_code ?_
      refine WC_region ?_
      refine WL_val rfl rfl rfl (R_add rfl rfl rfl (by omega)) ?_
      refine WL_val rfl rfl rfl (R_move rfl rfl) ?_
      refine WL_nil ?_
      refine WQ_nextF (j + 1) (⟨by omega, fr_next hx hjf hge⟩) (by omega) (Le.lq (by repeat (first | exact Le.nil | refine Le.cons rfl (by first | rfl | (congr 1; omega)) ?_))) (by repeat (first | exact Pushed.refl | refine Pushed.push rfl ?_)) rfl (by repeat (first | exact Pulls.nil | exact Pulls.all | (apply Pulls.cons; (repeat (first | exact Pull.head | apply Pull.tail))) | apply Pulls.skip))
  · refine WC_exit ?_
    refine WQ_code ?_
    refine WC_seq ?_
    refine WC_region ?_
    refine WL_val rfl rfl rfl (R_assign rfl rfl) ?_
    refine WL_nil ?_
    refine WQ_code ?_
    refine WC_ret ?_
    refine WQ_ret rfl rfl (.cons (.tmp rfl) .nil) rfl (by
        exact ⟨_, rfl, .inr ⟨rfl, by have := fr_le (E := E); omega⟩, rfl⟩) (by repeat (first | exact Pulls.nil | exact Pulls.all | (apply Pulls.cons; (repeat (first | exact Pull.head | apply Pull.tail))) | apply Pulls.skip))
theorem hpush_full (p bx : Nat) (oe : Option Nat) (ne ce : Nat) (te : List Value) (n : Nat) (ol : Option Nat) (nl c : Nat) (tl : List Value) (E : List El) (l : List Nat) (h1 : 1024 ≤ nl) (k : Nat) (v : Int) : Spec Try.prog 61 [ptrH p, .int .u64 (k : Int), .int .i64 v] (hH p bx oe ne ce te n ol nl c tl E l) (fun r H' => r = .tuple #[.int .i64 0, .int .i64 7] ∧ H' = hH p bx oe ne ce te n ol nl c tl E l) := by
  refine Spec.of (E := [(0, ptrH p), (1, .int .u64 (k : Int)), (2, .int .i64 v)]) Try.func61 rfl (by kernel_rfl) Try.ntmps61 rfl rfl (fun w => ?_)
  refine WC_seq ?_
  refine WC_region ?_
  refine WL_val rfl rfl rfl (R_assign rfl rfl) ?_
  refine WL_val rfl rfl rfl (R_assign rfl rfl) ?_
  refine WL_nil ?_
  refine WQ_code ?_
  refine WC_seq ?_
  refine WC_block ?_
  refine WC_seq ?_
  refine WC_region ?_
  refine WL_val rfl rfl rfl (R_move rfl rfl) ?_
  refine WL_do rfl rfl rfl (D_call (hzero_ok p bx _ _ _ _ _ _ _) rfl rfl rfl rfl (by repeat (first | exact Pulls.nil | exact Pulls.all | (apply Pulls.cons; (repeat (first | exact Pull.head | apply Pull.tail))) | apply Pulls.skip))) ?_
  rintro _ _ ⟨_, ⟨rfl, rfl⟩, rfl⟩
  refine WL_val rfl rfl rfl (R_assign rfl rfl) ?_
  refine WL_nil ?_
  refine WQ_code ?_
  refine WC_F rfl ?_
  refine WC_seq ?_
  refine WC_region ?_
  refine WL_val rfl rfl rfl (R_move rfl rfl) ?_
  refine WL_val rfl rfl rfl (R_nilCheck rfl rfl) ?_
  refine WL_val rfl rfl rfl (R_fieldAddr rfl fa138_3 rfl) ?_
  refine WL_val rfl rfl rfl (R_fieldAddr rfl fa136_0 rfl) ?_
  refine WL_val rfl rfl rfl (R_load rfl sc116 rfl (by repeat (first | exact List.Mem.head _ | refine List.Mem.tail _ ?_)) rfl) ?_
  refine WL_val rfl rfl rfl (R_len rfl Try.underlying116 rfl) ?_
  refine WL_val rfl rfl rfl (R_geq rfl rfl rfl) ?_
  refine WL_val rfl rfl rfl (R_assign rfl rfl) ?_
  refine WL_nil ?_
  refine WQ_code ?_
  refine WC_dT rfl (by omega) ?_
  refine WC_seq ?_
  refine WC_region ?_
  refine WL_val rfl rfl rfl (R_assign rfl rfl) ?_
  refine WL_val rfl rfl rfl (R_assign rfl rfl) ?_
  refine WL_nil ?_
  refine WQ_code ?_
  refine WC_ret ?_
  refine WQ_ret rfl rfl (.cons (.tmp rfl) (.cons (.tmp rfl) .nil)) rfl (by
      exact ⟨rfl, rfl⟩) (by repeat (first | exact Pulls.nil | exact Pulls.all | (apply Pulls.cons; (repeat (first | exact Pull.head | apply Pull.tail))) | apply Pulls.skip))
theorem hpush_x (p bx : Nat) (oe : Option Nat) (ne ce : Nat) (te : List Value) (n : Nat) (ol : Option Nat) (nl c : Nat) (tl : List Value) (E : List El) (l : List Nat) (W : List WE) (hp : Hp W E l n) (hne : E.length = ne) (hnl : l.length = nl) (hoe : Own oe ne ce 4 (E.flatMap encEl) te) (hol : Own ol nl c 1 (ivn l) tl) (h1 : nl < 1024) (hb : n + 1 < 9000000000000000000) (k : Nat) (v : Int) : Spec Try.prog 61 [ptrH p, .int .u64 (k : Int), .int .i64 v] (hH p bx oe ne ce te n ol nl c tl E l)
    (fun r H' => ∃ g : HM, r = .tuple #[.int .i64 (fr E : Int), .int .i64 0] ∧ H' = gH g ∧ g.p = p ∧ g.n = n + 1 ∧ HIs (W ++ [⟨fr E, v, k, n + 1⟩]) g) := by
  have hec := hp.ecap
  subst hnl
  refine Spec.of (E := [(0, ptrH p), (1, .int .u64 (k : Int)), (2, .int .i64 v)]) Try.func61 rfl (by kernel_rfl) Try.ntmps61 rfl rfl (fun w => ?_)
  refine WC_seq ?_
  refine WC_region ?_
  refine WL_val rfl rfl rfl (R_assign rfl rfl) ?_
  refine WL_val rfl rfl rfl (R_assign rfl rfl) ?_
  refine WL_nil ?_
  refine WQ_code ?_
  refine WC_seq ?_
  refine WC_block ?_
  refine WC_seq ?_
  refine WC_region ?_
  refine WL_val rfl rfl rfl (R_move rfl rfl) ?_
  refine WL_do rfl rfl rfl (D_call (hzero_ok p bx _ _ _ _ _ _ _) rfl rfl rfl rfl (by repeat (first | exact Pulls.nil | exact Pulls.all | (apply Pulls.cons; (repeat (first | exact Pull.head | apply Pull.tail))) | apply Pulls.skip))) ?_
  rintro _ _ ⟨_, ⟨rfl, rfl⟩, rfl⟩
  refine WL_val rfl rfl rfl (R_assign rfl rfl) ?_
  refine WL_nil ?_
  refine WQ_code ?_
  refine WC_F rfl ?_
  refine WC_seq ?_
  refine WC_region ?_
  refine WL_val rfl rfl rfl (R_move rfl rfl) ?_
  refine WL_val rfl rfl rfl (R_nilCheck rfl rfl) ?_
  refine WL_val rfl rfl rfl (R_fieldAddr rfl fa138_3 rfl) ?_
  refine WL_val rfl rfl rfl (R_fieldAddr rfl fa136_0 rfl) ?_
  refine WL_val rfl rfl rfl (R_load rfl sc116 rfl (by repeat (first | exact List.Mem.head _ | refine List.Mem.tail _ ?_)) rfl) ?_
  refine WL_val rfl rfl rfl (R_len rfl Try.underlying116 rfl) ?_
  refine WL_val rfl rfl rfl (R_geq rfl rfl rfl) ?_
  refine WL_val rfl rfl rfl (R_assign rfl rfl) ?_
  refine WL_nil ?_
  refine WQ_code ?_
  refine WC_dF rfl (by omega) ?_
  refine WC_skip ?_
  refine WQ_code ?_
  refine WC_seq ?_
  refine WC_region ?_
  refine WL_val rfl rfl rfl (R_move rfl rfl) ?_
  refine WL_val rfl rfl rfl (R_nilCheck rfl rfl) ?_
  refine WL_val rfl rfl rfl (R_fieldAddr rfl fa138_1 rfl) ?_
  refine WL_val rfl rfl rfl (R_load rfl sc132 rfl (by repeat (first | exact List.Mem.head _ | refine List.Mem.tail _ ?_)) rfl) ?_
  refine WL_do rfl rfl rfl (D_call (hidx_ok oe ne ce te E hne hoe) rfl rfl rfl rfl (by repeat (first | exact Pulls.nil | exact Pulls.all | (apply Pulls.cons; (repeat (first | exact Pull.head | apply Pull.tail))) | apply Pulls.skip))) ?_
  rintro _ _ ⟨_, ⟨i, rfl, hi, rfl⟩, rfl⟩
  refine WL_val rfl rfl rfl (R_assign rfl rfl) ?_
  refine WL_nil ?_
  refine WQ_code ?_
  refine WC_seq ?_
  refine WC_seq ?_
  refine WC_region ?_
  refine WL_val rfl rfl rfl (R_move rfl rfl) ?_
  refine WL_val rfl rfl rfl (R_lss rfl rfl rfl) ?_
  refine WL_nil ?_
  refine WQ_code ?_
  refine WC_dec rfl (fun c1 => ?_) (fun c1 => ?_)
  · have hfe : fr E = ne := by omega
    refine WC_seq ?_
    refine WC_region ?_
    refine WL_val rfl rfl rfl (R_move rfl rfl) ?_
    refine WL_val rfl rfl rfl (R_nilCheck rfl rfl) ?_
    refine WL_val rfl rfl rfl (R_fieldAddr rfl fa138_1 rfl) ?_
    refine WL_val rfl rfl rfl (R_load rfl sc132 rfl (by repeat (first | exact List.Mem.head _ | refine List.Mem.tail _ ?_)) rfl) ?_
    refine WL_val rfl rfl rfl (R_len rfl Try.underlying132 rfl) ?_
    refine WL_val rfl rfl rfl (R_assign rfl rfl) ?_
    refine WL_nil ?_
    refine WQ_code ?_
    refine WC_region ?_
    refine WL_val rfl rfl rfl (R_move rfl rfl) ?_
    refine WL_val rfl rfl rfl (R_move rfl rfl) ?_
    refine WL_val rfl rfl rfl (R_nilCheck rfl rfl) ?_
    refine WL_val rfl rfl rfl (R_fieldAddr rfl fa138_1 rfl) ?_
    refine WL_val rfl rfl rfl (R_load rfl sc132 rfl (by repeat (first | exact List.Mem.head _ | refine List.Mem.tail _ ?_)) rfl) ?_
    refine WL_val rfl rfl rfl (R_build rfl zv141 pl141 rfl rfl) ?_
    refine WL_do rfl rfl rfl (D_buildSlice rfl si132 rfl rfl rfl) ?_
    rintro _ _ ⟨b1, rfl, rfl⟩
    refine WL_do rfl rfl rfl (D_append rfl si132 rfl (hoe) (by repeat (first | exact Pull.head | apply Pull.tail)) rfl (by repeat (first | exact List.Mem.head _ | refine List.Mem.tail _ ?_)) ((by repeat (first | exact At.nil | refine At.cons ?_ | refine At.succ ?_) : At _ 0 [_, _, _, _])) (rfl) (rfl) (by omega) (by omega)) ?_
    rintro _ _ ⟨ob2, cap2, tl2, rfl, own2, rfl⟩
    obtain ⟨be, rfl⟩ := own2.some_of (by omega)
    rw [show E.flatMap encEl ++ [Value.int .u64 0, .int .i64 0, .int .u64 0, .int .i64 0] = (E ++ [(⟨0, 0, 0, 0⟩ : El)]).flatMap encEl from by rw [List.flatMap_append]; rfl] at own2 ⊢
    refine WL_val rfl rfl rfl (R_nilCheck rfl rfl) ?_
    refine WL_val rfl rfl rfl (R_fieldAddr rfl fa138_1 rfl) ?_
    refine WL_do0 rfl rfl (D_store (vs := [_]) rfl Try.sizeOf132 rfl rfl rfl rfl rfl (by repeat (first | exact Pull.head | apply Pull.tail)) (by exact Nat.le_of_ble_eq_true rfl)) ?_
    rintro _ _ rfl
    refine WL_nil ?_
    refine WQ_code ?_
    refine WC_seq ?_
    refine WC_region ?_
    rw [show ((ne : Nat) : Int) = ((fr E : Nat) : Int) from by omega]
    have hx : (E ++ [(⟨0, 0, 0, 0⟩ : El)])[fr E]? = some ⟨0, 0, 0, 0⟩ := by rw [hfe, ← hne]; simp
    obtain ⟨st1, ho1, hs1, _⟩ := hp.push0 k v (E1 := E ++ [⟨0, 0, 0, 0⟩]) (.inr ⟨by omega, rfl⟩) (by simp; omega) (by omega) hb
    refine WL_val rfl rfl rfl (R_move rfl rfl) ?_
    refine WL_val rfl rfl rfl (R_nilCheck rfl rfl) ?_
    refine WL_val rfl rfl rfl (R_fieldAddr rfl fa138_2 rfl) ?_
    refine WL_val rfl rfl rfl (R_load rfl sc25 rfl (by repeat (first | exact List.Mem.head _ | refine List.Mem.tail _ ?_)) rfl) ?_
    refine WL_val rfl rfl rfl (R_addR (r := ((n + 1 : Nat) : Int)) rfl rfl rfl (by rw [w64 ⟨by omega, by omega⟩]; omega)) ?_
    refine WL_val rfl rfl rfl (R_nilCheck rfl rfl) ?_
    refine WL_val rfl rfl rfl (R_fieldAddr rfl fa138_2 rfl) ?_
    refine WL_do0 rfl rfl (D_store (vs := [_]) rfl Try.sizeOf25 rfl rfl rfl rfl rfl (by repeat (first | exact Pull.head | apply Pull.tail)) (by exact Nat.le_of_ble_eq_true rfl)) ?_
    rintro _ _ rfl
    refine WL_nil ?_
    refine WQ_code ?_
    refine WC_seq ?_
    refine WC_drawR [⟨some be, _⟩] [(0, true), (1, true), (2, true), (3, true), (4, true), (5, true), (6, true), (7, true), (8, true), (9, true), (10, true), (11, true), (12, true), (13, false)] followsMixed rfl rfl (by kernel_rfl) (by repeat (first | exact Pulls.nil | exact Pulls.all | (apply Pulls.cons; (repeat (first | exact Pull.head | apply Pull.tail))) | apply Pulls.skip)) ?_
    refine WM_val rfl rfl rfl rfl (R_move rfl rfl) ?_
    refine WM_val rfl rfl rfl rfl (R_nilCheck rfl rfl) ?_
    refine WM_val rfl rfl rfl rfl (R_fieldAddr rfl fa138_1 rfl) ?_
    refine WM_val rfl rfl rfl rfl (R_load rfl sc132 rfl (by repeat (first | exact List.Mem.head _ | refine List.Mem.tail _ ?_)) rfl) ?_
    refine WM_val rfl rfl rfl rfl (R_move rfl rfl) ?_
    refine WM_val rfl rfl rfl rfl (R_move rfl rfl) ?_
    refine WM_val rfl rfl rfl rfl (R_move rfl rfl) ?_
    refine WM_val rfl rfl rfl rfl (R_move rfl rfl) ?_
    refine WM_val rfl rfl rfl rfl (R_nilCheck rfl rfl) ?_
    refine WM_val rfl rfl rfl rfl (R_fieldAddr rfl fa138_2 rfl) ?_
    refine WM_val rfl rfl rfl rfl (R_load rfl sc25 rfl (by repeat (first | exact List.Mem.head _ | refine List.Mem.tail _ ?_)) rfl) ?_
    refine WM_val rfl rfl rfl rfl (R_build rfl zv141 pl141 rfl rfl) ?_
    refine WM_val rfl rfl rfl rfl (R_indexAddrN rfl Try.underlying132 Try.sizeOf141 rfl rfl (by omega)) ?_
    refine WM_do0 rfl rfl rfl (D_store (vs := [_, _, _, _]) rfl Try.sizeOf141 rfl rfl rfl rfl rfl (by repeat (first | exact Pull.head | apply Pull.tail)) (by exact fm_room0 encEl4 (show fr E < (E ++ [(⟨0, 0, 0, 0⟩ : El)]).length by first | omega | (simp; omega)) (j := 0) (by omega))) ?_
    rintro _ _ rfl
    refine ⟨⟨_, by repeat (first | exact Pulls.nil | exact Pulls.all | (apply Pulls.cons; (repeat (first | exact Pull.head | apply Pull.tail))) | apply Pulls.skip)⟩, ?_⟩
    have hput := fm_put0 encEl4 (⟨k, v, n + 1, 0⟩ : El) hx (j := 0) (vs := [.int .u64 (k : Int), .int .i64 v, .int .u64 ((n + 1 : Nat) : Int), .int .i64 0]) (by simp) rfl (tl := tl2)
    rw [Nat.add_zero] at hput
    rw [hput]
    refine WM_nil ?_
    refine WQ_code ?_
    refine WC_seq ?_
    refine WC_region ?_
    refine WL_val rfl rfl rfl (R_move rfl rfl) ?_
    refine WL_val rfl rfl rfl (R_nilCheck rfl rfl) ?_
    refine WL_val rfl rfl rfl (R_fieldAddr rfl fa138_3 rfl) ?_
    refine WL_val rfl rfl rfl (R_move rfl rfl) ?_
    refine WL_do rfl rfl rfl (D_call (qadd_ok p bx be (ne + 1) cap2 tl2 (n + 1) ol c tl ((E ++ [(⟨0, 0, 0, 0⟩ : El)]).set (fr E) ⟨k, v, n + 1, 0⟩) l st1 ho1 (by simp [hne]) hol (by omega) (fr E) _ hs1 hp.fr_out) rfl rfl rfl rfl (by repeat (first | exact Pulls.nil | exact Pulls.all | (apply Pulls.cons; (repeat (first | exact Pull.head | apply Pull.tail))) | apply Pulls.skip))) ?_
    rintro _ _ ⟨_, ⟨E', l', bl, c', tl', rfl, rfl, own', s', p', o'⟩, rfl⟩
    refine WL_nil ?_
    refine WQ_code ?_
    refine WC_seq ?_
    refine WC_region ?_
    refine WL_val rfl rfl rfl (R_move rfl rfl) ?_
    refine WL_val rfl rfl rfl (R_assign rfl rfl) ?_
    refine WL_val rfl rfl rfl (R_assign rfl rfl) ?_
    refine WL_nil ?_
    refine WQ_code ?_
    refine WC_ret ?_
    refine WQ_ret rfl rfl (.cons (.tmp rfl) (.cons (.tmp rfl) .nil)) rfl (by
        exact ⟨⟨p, bx, some be, ne + 1, cap2, tl2, n + 1, some bl, l.length + 1, c', tl', E', l'⟩, rfl, rfl, rfl, rfl, ⟨hp.push k v (E1 := (E ++ [(⟨0, 0, 0, 0⟩ : El)])) (.inr ⟨by omega, rfl⟩) (by first | omega | (simp; omega)) (by omega) hb s' p' (by rw [p'.length_eq, List.length_append, List.length_singleton]; exact o'.cong (fun j _ => by rw [rkl, rkl, s'.rk])), by dsimp only; rw [s'.len]; simp [hne], by dsimp only; rw [p'.length_eq]; simp, own2.like (by simp only [fm_length encEl4, s'.len, List.length_set]), own'⟩⟩) (by repeat (first | exact Pulls.nil | exact Pulls.all | (apply Pulls.cons; (repeat (first | exact Pull.head | apply Pull.tail))) | apply Pulls.skip))
  · have hfe : fr E < ne := by omega
    obtain rfl : i = (fr E : Int) := by omega
    obtain ⟨be, rfl⟩ := hoe.some_of (by omega)
    obtain ⟨x, hx⟩ := exE (T := E) (i := fr E) (by omega)
    obtain ⟨st1, ho1, hs1, _⟩ := hp.push0 k v (E1 := E) (.inl rfl) (by omega) (by omega) hb
    refine WC_skip ?_
    refine WQ_code ?_
    refine WC_seq ?_
    refine WC_region ?_
    refine WL_val rfl rfl rfl (R_move rfl rfl) ?_
    refine WL_val rfl rfl rfl (R_nilCheck rfl rfl) ?_
    refine WL_val rfl rfl rfl (R_fieldAddr rfl fa138_2 rfl) ?_
    refine WL_val rfl rfl rfl (R_load rfl sc25 rfl (by repeat (first | exact List.Mem.head _ | refine List.Mem.tail _ ?_)) rfl) ?_
    refine WL_val rfl rfl rfl (R_addR (r := ((n + 1 : Nat) : Int)) rfl rfl rfl (by rw [w64 ⟨by omega, by omega⟩]; omega)) ?_
    refine WL_val rfl rfl rfl (R_nilCheck rfl rfl) ?_
    refine WL_val rfl rfl rfl (R_fieldAddr rfl fa138_2 rfl) ?_
    refine WL_do0 rfl rfl (D_store (vs := [_]) rfl Try.sizeOf25 rfl rfl rfl rfl rfl (by repeat (first | exact Pull.head | apply Pull.tail)) (by exact Nat.le_of_ble_eq_true rfl)) ?_
    rintro _ _ rfl
    refine WL_nil ?_
    refine WQ_code ?_
    refine WC_seq ?_
    refine WC_drawR [⟨some be, _⟩] [(0, true), (1, true), (2, true), (3, true), (4, true), (5, true), (6, true), (7, true), (8, true), (9, true), (10, true), (11, true), (12, true), (13, false)] followsMixed rfl rfl (by kernel_rfl) (by repeat (first | exact Pulls.nil | exact Pulls.all | (apply Pulls.cons; (repeat (first | exact Pull.head | apply Pull.tail))) | apply Pulls.skip)) ?_
    refine WM_val rfl rfl rfl rfl (R_move rfl rfl) ?_
    refine WM_val rfl rfl rfl rfl (R_nilCheck rfl rfl) ?_
    refine WM_val rfl rfl rfl rfl (R_fieldAddr rfl fa138_1 rfl) ?_
    refine WM_val rfl rfl rfl rfl (R_load rfl sc132 rfl (by repeat (first | exact List.Mem.head _ | refine List.Mem.tail _ ?_)) rfl) ?_
    refine WM_val rfl rfl rfl rfl (R_move rfl rfl) ?_
    refine WM_val rfl rfl rfl rfl (R_move rfl rfl) ?_
    refine WM_val rfl rfl rfl rfl (R_move rfl rfl) ?_
    refine WM_val rfl rfl rfl rfl (R_move rfl rfl) ?_
    refine WM_val rfl rfl rfl rfl (R_nilCheck rfl rfl) ?_
    refine WM_val rfl rfl rfl rfl (R_fieldAddr rfl fa138_2 rfl) ?_
    refine WM_val rfl rfl rfl rfl (R_load rfl sc25 rfl (by repeat (first | exact List.Mem.head _ | refine List.Mem.tail _ ?_)) rfl) ?_
    refine WM_val rfl rfl rfl rfl (R_build rfl zv141 pl141 rfl rfl) ?_
    refine WM_val rfl rfl rfl rfl (R_indexAddrN rfl Try.underlying132 Try.sizeOf141 rfl rfl (by omega)) ?_
    refine WM_do0 rfl rfl rfl (D_store (vs := [_, _, _, _]) rfl Try.sizeOf141 rfl rfl rfl rfl rfl (by repeat (first | exact Pull.head | apply Pull.tail)) (by exact fm_room0 encEl4 (show fr E < E.length by first | omega | (simp; omega)) (j := 0) (by omega))) ?_
    rintro _ _ rfl
    refine ⟨⟨_, by repeat (first | exact Pulls.nil | exact Pulls.all | (apply Pulls.cons; (repeat (first | exact Pull.head | apply Pull.tail))) | apply Pulls.skip)⟩, ?_⟩
    have hput := fm_put0 encEl4 (⟨k, v, n + 1, 0⟩ : El) hx (j := 0) (vs := [.int .u64 (k : Int), .int .i64 v, .int .u64 ((n + 1 : Nat) : Int), .int .i64 0]) (by simp) rfl (tl := te)
    rw [Nat.add_zero] at hput
    rw [hput]
    refine WM_nil ?_
    refine WQ_code ?_
    refine WC_seq ?_
    refine WC_region ?_
    refine WL_val rfl rfl rfl (R_move rfl rfl) ?_
    refine WL_val rfl rfl rfl (R_nilCheck rfl rfl) ?_
    refine WL_val rfl rfl rfl (R_fieldAddr rfl fa138_3 rfl) ?_
    refine WL_val rfl rfl rfl (R_move rfl rfl) ?_
    refine WL_do rfl rfl rfl (D_call (qadd_ok p bx be ne ce te (n + 1) ol c tl (E.set (fr E) ⟨k, v, n + 1, 0⟩) l st1 ho1 (by simp [hne]) hol (by omega) (fr E) _ hs1 hp.fr_out) rfl rfl rfl rfl (by repeat (first | exact Pulls.nil | exact Pulls.all | (apply Pulls.cons; (repeat (first | exact Pull.head | apply Pull.tail))) | apply Pulls.skip))) ?_
    rintro _ _ ⟨_, ⟨E', l', bl, c', tl', rfl, rfl, own', s', p', o'⟩, rfl⟩
    refine WL_nil ?_
    refine WQ_code ?_
    refine WC_seq ?_
    refine WC_region ?_
    refine WL_val rfl rfl rfl (R_move rfl rfl) ?_
    refine WL_val rfl rfl rfl (R_assign rfl rfl) ?_
    refine WL_val rfl rfl rfl (R_assign rfl rfl) ?_
    refine WL_nil ?_
    refine WQ_code ?_
    refine WC_ret ?_
    refine WQ_ret rfl rfl (.cons (.tmp rfl) (.cons (.tmp rfl) .nil)) rfl (by
        exact ⟨⟨p, bx, some be, ne, ce, te, n + 1, some bl, l.length + 1, c', tl', E', l'⟩, rfl, rfl, rfl, rfl, ⟨hp.push k v (E1 := E) (.inl rfl) (by first | omega | (simp; omega)) (by omega) hb s' p' (by rw [p'.length_eq, List.length_append, List.length_singleton]; exact o'.cong (fun j _ => by rw [rkl, rkl, s'.rk])), by dsimp only; rw [s'.len]; simp [hne], by dsimp only; rw [p'.length_eq]; simp, hoe.like (by simp only [fm_length encEl4, s'.len, List.length_set]), own'⟩⟩) (by repeat (first | exact Pulls.nil | exact Pulls.all | (apply Pulls.cons; (repeat (first | exact Pull.head | apply Pull.tail))) | apply Pulls.skip))

end Go.Proofs.Ytnkpefonocggfaa
