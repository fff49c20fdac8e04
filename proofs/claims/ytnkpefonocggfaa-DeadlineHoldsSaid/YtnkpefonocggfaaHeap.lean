/-
  Chapter 10 (deadline), part Heap: contracts of functions that the laws call, each for the heap it names.
-/
import Derived.Test.YtnkpefonocggfaaRows
import Derived.Test.YtnkpefonocggfaaSLPhase
import Derived.Test.YtnkpefonocggfaaSLInt
import Derived.Test.YtnkpefonocggfaaTab
import Derived.Test.YtnkpefonocggfaaHeapM
import Derived.Test.YtnkpefonocggfaaSLMore
set_option linter.unusedVariables false
set_option maxRecDepth 20000
set_option maxHeartbeats 2000000
namespace Go.Proofs.Ytnkpefonocggfaa


abbrev ptrH (p : Nat) : Value := .pointer (some ⟨p, 0, none⟩)
abbrev hC (bx : Nat) (oe : Option Nat) (ne ce n : Nat) (ol : Option Nat) (nl c : Nat) : List Value := [.bool true, slV oe ne ce, .int .u64 (n : Int), slV ol nl c, .func (.func 88) #[] #[ptrH bx], .func (.func 89) #[] #[ptrH bx]]
/-- A heap in memory: its block, the one that its functions look at, its elements, its tree. -/
abbrev hR (p bx be ne ce : Nat) (te : List Value) (n bl nl c : Nat) (tl : List Value) (E : List El) (l : List Nat) : Heap := [⟨some p, cl (hC bx (some be) ne ce n (some bl) nl c) 138⟩, ⟨some bx, cl [ptrH p] 114⟩, ⟨some be, cl (E.flatMap encEl ++ te) 141⟩, ⟨some bl, cl (ivn l ++ tl) 3⟩]
theorem rk_dec {E : List El} {a b : Nat} {x y : El} (hx : E[a]? = some x) (hy : E[b]? = some y) (h1 : x.seq < 18446744073709551616) (h2 : y.seq < 18446744073709551616) (v : Bool) (h : v = true ↔ x.key < y.key ∨ (x.key = y.key ∧ x.seq < y.seq)) :
    Value.bool v = Value.bool (decide (rk E a < rk E b)) := by
  rw [rk_of hx, rk_of hy]
  congr 1
  rw [Bool.eq_iff_iff, decide_eq_true_iff, h]
  omega
theorem bef_ok (p bx be ne ce : Nat) (te : List Value) (n bl nl c : Nat) (tl : List Value) (E : List El) (l : List Nat) (hne : E.length = ne) (a b : Nat) (x y : El) (hx : E[a]? = some x) (hy : E[b]? = some y) (h1 : x.seq < 18446744073709551616) (h2 : y.seq < 18446744073709551616) :
    Spec Try.prog 88 [.int .i64 (a : Int), .int .i64 (b : Int), ptrH bx] (hR p bx be ne ce te n bl nl c tl E l) (fun r H' => r = .bool (decide (rk E a < rk E b)) ∧ H' = hR p bx be ne ce te n bl nl c tl E l) := by
  have hxl := (List.getElem?_eq_some_iff.1 hx).1
  have hyl := (List.getElem?_eq_some_iff.1 hy).1
  refine Spec.of (E := [(0, .int .i64 (a : Int)), (1, .int .i64 (b : Int)), (2, ptrH bx)]) Try.func88 rfl (by kernel_rfl) Try.ntmps88 rfl rfl (fun w => ?_)
  refine WC_seq ?_
  refine WC_region ?_
  refine WL_val rfl rfl rfl (R_assign rfl rfl) ?_
  refine WL_nil ?_
  refine WQ_code ?_
  refine WC_seq ?_
  refine WC_drawB _ [(0, .q), (1, .q), (2, .q), (3, .q), (4, .q), (5, .q), (6, .q), (7, .q), (8, .q), (9, .q), (10, .q), (11, .q), (12, .q), (13, .q), (14, .b [15]), (15, .b []), (16, .n []), (17, .n [])] followsMixed rfl rfl (by kernel_rfl) .all ?_
  refine WB_val rfl rfl rfl rfl (R_load rfl sc114 rfl (by repeat (first | exact List.Mem.head _ | refine List.Mem.tail _ ?_)) rfl) ?_
  refine WB_val rfl rfl rfl rfl (R_nilCheck rfl rfl) ?_
  refine WB_val rfl rfl rfl rfl (R_fieldAddr rfl fa138_1 rfl) ?_
  refine WB_val rfl rfl rfl rfl (R_load rfl sc132 rfl (by repeat (first | exact List.Mem.head _ | refine List.Mem.tail _ ?_)) rfl) ?_
  refine WB_val rfl rfl rfl rfl (R_move rfl rfl) ?_
  refine WB_val rfl rfl rfl rfl (R_indexAddrN rfl Try.underlying132 Try.sizeOf141 rfl rfl (by omega)) ?_
  refine WB_val rfl rfl rfl rfl (R_loadA (vs := encEl x) rfl ag141 rfl (by repeat (first | exact List.Mem.head _ | refine List.Mem.tail _ ?_)) rfl (fm_at0 encEl4 hx (j := 0) (vs := encEl x) (fun j v h => by rw [Nat.zero_add]; exact h) (Nat.le_refl 4))) ?_
  refine WB_val rfl rfl rfl rfl (R_load rfl sc114 rfl (by repeat (first | exact List.Mem.head _ | refine List.Mem.tail _ ?_)) rfl) ?_
  refine WB_val rfl rfl rfl rfl (R_nilCheck rfl rfl) ?_
  refine WB_val rfl rfl rfl rfl (R_fieldAddr rfl fa138_1 rfl) ?_
  refine WB_val rfl rfl rfl rfl (R_load rfl sc132 rfl (by repeat (first | exact List.Mem.head _ | refine List.Mem.tail _ ?_)) rfl) ?_
  refine WB_val rfl rfl rfl rfl (R_move rfl rfl) ?_
  refine WB_val rfl rfl rfl rfl (R_indexAddrN rfl Try.underlying132 Try.sizeOf141 rfl rfl (by omega)) ?_
  refine WB_val rfl rfl rfl rfl (R_loadA (vs := encEl y) rfl ag141 rfl (by repeat (first | exact List.Mem.head _ | refine List.Mem.tail _ ?_)) rfl (fm_at0 encEl4 hy (j := 0) (vs := encEl y) (fun j v h => by rw [Nat.zero_add]; exact h) (Nat.le_refl 4))) ?_
  refine WB_birth rfl rfl rfl rfl (.cons rfl rfl (B_alloc rfl zv141) .nil) (B_alloc rfl zv141) (fun b1 => ?_)
  refine WB_birth rfl rfl rfl rfl .nil (B_alloc rfl zv141) (fun b2 => ?_)
  refine WB_do0 rfl rfl rfl .nil (fun _ => D_store (vs := [_, _, _, _]) rfl Try.sizeOf141 rfl rfl rfl rfl rfl (by repeat (first | exact Pull.head | apply Pull.tail)) (by exact Nat.le_of_ble_eq_true rfl)) ?_
  rintro _ _ rfl
  refine ⟨⟨_, by repeat (first | exact Pulls.nil | exact Pulls.all | (apply Pulls.cons; (repeat (first | exact Pull.head | apply Pull.tail))) | apply Pulls.skip)⟩, ?_⟩
  refine WB_do0 rfl rfl rfl .nil (fun _ => D_store (vs := [_, _, _, _]) rfl Try.sizeOf141 rfl rfl rfl rfl rfl (by repeat (first | exact Pull.head | apply Pull.tail)) (by exact Nat.le_of_ble_eq_true rfl)) ?_
  rintro _ _ rfl
  refine ⟨⟨_, by repeat (first | exact Pulls.nil | exact Pulls.all | (apply Pulls.cons; (repeat (first | exact Pull.head | apply Pull.tail))) | apply Pulls.skip)⟩, ?_⟩
  refine WB_nil ?_
  refine WQ_code ?_
  refine WC_seq ?_
  refine WC_region ?_
  refine WL_val rfl rfl rfl (R_fieldAddr rfl fa141_0 rfl) ?_
  refine WL_val rfl rfl rfl (R_load rfl sc26 rfl (by repeat (first | exact List.Mem.head _ | refine List.Mem.tail _ ?_)) rfl) ?_
  refine WL_val rfl rfl rfl (R_fieldAddr rfl fa141_0 rfl) ?_
  refine WL_val rfl rfl rfl (R_load rfl sc26 rfl (by repeat (first | exact List.Mem.head _ | refine List.Mem.tail _ ?_)) rfl) ?_
  refine WL_val rfl rfl rfl (R_lss rfl rfl rfl) ?_
  refine WL_val rfl rfl rfl (R_move rfl rfl) ?_
  refine WL_splitD (s := 27) rfl (fun c1 => ?_) (fun c1 => ?_)
  · have h27 : ((x.key : Nat) : Int) < (y.key : Nat) := c1
    refine WL_skip rfl rfl rfl ?_
    refine WL_skip rfl rfl rfl ?_
    refine WL_skip rfl rfl rfl ?_
    refine WL_skip rfl rfl rfl ?_
    refine WL_skip rfl rfl rfl ?_
    refine WL_skip rfl rfl rfl ?_
    refine WL_skip rfl rfl rfl ?_
    refine WL_skip rfl rfl rfl ?_
    refine WL_skip rfl rfl rfl ?_
    refine WL_skip rfl rfl rfl ?_
    refine WL_skip rfl rfl rfl ?_
    refine WL_skip rfl rfl rfl ?_
    refine WL_val rfl rfl rfl (R_pickT rfl rfl rfl) ?_
    refine WL_val rfl rfl rfl (R_assign rfl rfl) ?_
    refine WL_nil ?_
    refine WQ_code ?_
    refine WC_ret ?_
    refine WQ_ret rfl rfl (.cons (.tmp rfl) .nil) rfl (by
        exact ⟨rk_dec hx hy h1 h2 _ (by first | (rw [decide_eq_true_eq]; omega) | (simp; omega)), rfl⟩) (by repeat (first | exact Pulls.nil | exact Pulls.all | (apply Pulls.cons; (repeat (first | exact Pull.head | apply Pull.tail))) | apply Pulls.skip))
  · have h27 : ¬ ((x.key : Nat) : Int) < (y.key : Nat) := c1
    refine WL_val rfl rfl rfl (R_fieldAddr rfl fa141_0 rfl) ?_
    refine WL_val rfl rfl rfl (R_load rfl sc26 rfl (by repeat (first | exact List.Mem.head _ | refine List.Mem.tail _ ?_)) rfl) ?_
    refine WL_val rfl rfl rfl (R_fieldAddr rfl fa141_0 rfl) ?_
    refine WL_val rfl rfl rfl (R_load rfl sc26 rfl (by repeat (first | exact List.Mem.head _ | refine List.Mem.tail _ ?_)) rfl) ?_
    refine WL_val rfl rfl rfl (R_eql rfl rfl rfl) ?_
    refine WL_val rfl rfl rfl (R_move rfl rfl) ?_
    refine WL_splitD (s := 33) rfl (fun c2 => ?_) (fun c2 => ?_)
    · have h33 : ((x.key : Nat) : Int) = (y.key : Nat) := c2
      refine WL_val rfl rfl rfl (R_fieldAddr rfl fa141_2 rfl) ?_
      refine WL_val rfl rfl rfl (R_load rfl sc25 rfl (by repeat (first | exact List.Mem.head _ | refine List.Mem.tail _ ?_)) rfl) ?_
      refine WL_val rfl rfl rfl (R_fieldAddr rfl fa141_2 rfl) ?_
      refine WL_val rfl rfl rfl (R_load rfl sc25 rfl (by repeat (first | exact List.Mem.head _ | refine List.Mem.tail _ ?_)) rfl) ?_
      refine WL_val rfl rfl rfl (R_lss rfl rfl rfl) ?_
      refine WL_val rfl rfl rfl (R_pickT rfl rfl rfl) ?_
      refine WL_val rfl rfl rfl (R_pickF rfl rfl rfl) ?_
      refine WL_val rfl rfl rfl (R_assign rfl rfl) ?_
      refine WL_nil ?_
      refine WQ_code ?_
      refine WC_ret ?_
      refine WQ_ret rfl rfl (.cons (.tmp rfl) .nil) rfl (by
          exact ⟨rk_dec hx hy h1 h2 _ (by first | (rw [decide_eq_true_eq]; omega) | (simp; omega)), rfl⟩) (by repeat (first | exact Pulls.nil | exact Pulls.all | (apply Pulls.cons; (repeat (first | exact Pull.head | apply Pull.tail))) | apply Pulls.skip))
    · have h33 : ¬ ((x.key : Nat) : Int) = (y.key : Nat) := c2
      refine WL_skip rfl rfl rfl ?_
      refine WL_skip rfl rfl rfl ?_
      refine WL_skip rfl rfl rfl ?_
      refine WL_skip rfl rfl rfl ?_
      refine WL_skip rfl rfl rfl ?_
      refine WL_val rfl rfl rfl (R_pickF rfl rfl rfl) ?_
      refine WL_val rfl rfl rfl (R_pickF rfl rfl rfl) ?_
      refine WL_val rfl rfl rfl (R_assign rfl rfl) ?_
      refine WL_nil ?_
      refine WQ_code ?_
      refine WC_ret ?_
      refine WQ_ret rfl rfl (.cons (.tmp rfl) .nil) rfl (by
          exact ⟨rk_dec hx hy h1 h2 _ (by first | (rw [decide_eq_true_eq]; omega) | (simp; omega)), rfl⟩) (by repeat (first | exact Pulls.nil | exact Pulls.all | (apply Pulls.cons; (repeat (first | exact Pull.head | apply Pull.tail))) | apply Pulls.skip))
theorem put_ok (p bx be ne ce : Nat) (te : List Value) (n bl nl c : Nat) (tl : List Value) (E : List El) (l : List Nat) (hne : E.length = ne) (h : Nat) (i : Int) (x : El) (hx : E[h]? = some x) :
    Spec Try.prog 89 [.int .i64 (h : Int), .int .i64 i, ptrH bx] (hR p bx be ne ce te n bl nl c tl E l) (fun r H' => r = .tuple #[] ∧ H' = hR p bx be ne ce te n bl nl c tl (setp E h i) l) := by
  have hxl := (List.getElem?_eq_some_iff.1 hx).1
  refine Spec.of (E := [(0, .int .i64 (h : Int)), (1, .int .i64 i), (2, ptrH bx)]) Try.func89 rfl (by kernel_rfl) Try.ntmps89 rfl rfl (fun w => ?_)
  refine WC_region ?_
  refine WL_val rfl rfl rfl (R_load rfl sc114 rfl (by repeat (first | exact List.Mem.head _ | refine List.Mem.tail _ ?_)) rfl) ?_
  refine WL_val rfl rfl rfl (R_nilCheck rfl rfl) ?_
  refine WL_val rfl rfl rfl (R_fieldAddr rfl fa138_1 rfl) ?_
  refine WL_val rfl rfl rfl (R_load rfl sc132 rfl (by repeat (first | exact List.Mem.head _ | refine List.Mem.tail _ ?_)) rfl) ?_
  refine WL_val rfl rfl rfl (R_move rfl rfl) ?_
  refine WL_val rfl rfl rfl (R_move rfl rfl) ?_
  refine WL_val rfl rfl rfl (R_indexAddrN rfl Try.underlying132 Try.sizeOf141 rfl rfl (by omega)) ?_
  refine WL_val rfl rfl rfl (R_fieldAddr rfl fa141_3 rfl) ?_
  refine WL_do0 rfl rfl (D_store (vs := [_]) rfl Try.sizeOf3 rfl rfl rfl rfl rfl (by repeat (first | exact Pull.head | apply Pull.tail)) (by exact fm_room0 encEl4 hxl (j := 3) (by omega))) ?_
  rintro _ _ rfl
  have hput := fm_put0 encEl4 ({ x with pos := i } : El) hx (j := 3) (vs := [.int .i64 i]) (by simp) rfl (tl := te)
  rw [hput, setp_of hx i]
  refine WL_nil ?_
  refine WQ_ret rfl rfl .nil rfl (by
      exact ⟨rfl, rfl⟩) (by repeat (first | exact Pulls.nil | exact Pulls.all | (apply Pulls.cons; (repeat (first | exact Pull.head | apply Pull.tail))) | apply Pulls.skip))
theorem swap_ok (p bx be ne ce : Nat) (te : List Value) (n bl nl c : Nat) (tl : List Value) (E : List El) (l : List Nat) (hne : E.length = ne) (hnl : l.length = nl) (a b : Nat) (ha : a < l.length) (hb : b < l.length) (x y : El) (hx : E[gt0 l a]? = some x) (hy : E[gt0 l b]? = some y) :
    Spec Try.prog 90 [.pointer (some ⟨p, 3, none⟩), .int .i64 (a : Int), .int .i64 (b : Int)] (hR p bx be ne ce te n bl nl c tl E l) (fun r H' => r = .tuple #[] ∧ H' = hR p bx be ne ce te n bl nl c tl (setp (setp E (gt0 l b) (a : Int)) (gt0 l a) (b : Int)) (sw l a b)) := by
  have hla : l[a]? = some (gt0 l a) := by rw [gt0, List.getElem?_eq_getElem ha]; rfl
  have hlb : l[b]? = some (gt0 l b) := by rw [gt0, List.getElem?_eq_getElem hb]; rfl
  have hsa : (sw l a b)[a]? = some (gt0 l b) := by
    rw [sw_get ha hb]
    by_cases e : a = b
    · subst e; simp
    · simp [e]
  have hsb : (sw l a b)[b]? = some (gt0 l a) := by rw [sw_get ha hb]; simp
  refine Spec.of (E := [(0, .pointer (some ⟨p, 3, none⟩)), (1, .int .i64 (a : Int)), (2, .int .i64 (b : Int))]) Try.func90 rfl (by kernel_rfl) Try.ntmps90 rfl rfl (fun w => ?_)
  refine WC_seq ?_
  refine WC_drawE [⟨some bl, _⟩] [(0, false), (1, false), (2, false), (3, false), (4, false), (5, false), (6, false), (7, false), (8, false), (9, false), (10, false), (11, false), (12, false), (13, false), (14, false), (15, false), (16, true), (17, false), (18, false), (19, false), (20, false), (21, false), (22, false), (23, true)] [(24, true), (25, false), (26, true), (27, false)] followsMixed rfl rfl (by kernel_rfl) (by repeat (first | exact Pulls.nil | exact Pulls.all | (apply Pulls.cons; (repeat (first | exact Pull.head | apply Pull.tail))) | apply Pulls.skip)) ?_
  refine WZ_val rfl rfl rfl rfl (R_move rfl rfl) ?_
  refine WZ_val rfl rfl rfl rfl (R_nilCheck rfl rfl) ?_
  refine WZ_val rfl rfl rfl rfl (R_fieldAddr rfl fa136_0 rfl) ?_
  refine WZ_val rfl rfl rfl rfl (R_load rfl sc116 rfl (by repeat (first | exact List.Mem.head _ | refine List.Mem.tail _ ?_)) rfl) ?_
  refine WZ_val rfl rfl rfl rfl (R_move rfl rfl) ?_
  refine WZ_val rfl rfl rfl rfl (R_move rfl rfl) ?_
  refine WZ_val rfl rfl rfl rfl (R_nilCheck rfl rfl) ?_
  refine WZ_val rfl rfl rfl rfl (R_fieldAddr rfl fa136_0 rfl) ?_
  refine WZ_val rfl rfl rfl rfl (R_load rfl sc116 rfl (by repeat (first | exact List.Mem.head _ | refine List.Mem.tail _ ?_)) rfl) ?_
  refine WZ_val rfl rfl rfl rfl (R_move rfl rfl) ?_
  refine WZ_val rfl rfl rfl rfl (R_move rfl rfl) ?_
  refine WZ_val rfl rfl rfl rfl (R_nilCheck rfl rfl) ?_
  refine WZ_val rfl rfl rfl rfl (R_fieldAddr rfl fa136_0 rfl) ?_
  refine WZ_val rfl rfl rfl rfl (R_load rfl sc116 rfl (by repeat (first | exact List.Mem.head _ | refine List.Mem.tail _ ?_)) rfl) ?_
  refine WZ_val rfl rfl rfl rfl (R_move rfl rfl) ?_
  refine WZ_val rfl rfl rfl rfl (R_indexAddrN rfl Try.underlying116 Try.sizeOf3 rfl rfl (by omega)) ?_
  refine WZ_early rfl rfl rfl rfl (R_load (v := .int .i64 ((gt0 l b : Nat) : Int)) rfl sc3 rfl (by repeat (first | exact List.Mem.head _ | refine List.Mem.tail _ ?_)) (fm_get0 encN1 hlb (j := 0) (by omega))) ?_
  refine WZ_val rfl rfl rfl rfl (R_move rfl rfl) ?_
  refine WZ_val rfl rfl rfl rfl (R_nilCheck rfl rfl) ?_
  refine WZ_val rfl rfl rfl rfl (R_fieldAddr rfl fa136_0 rfl) ?_
  refine WZ_val rfl rfl rfl rfl (R_load rfl sc116 rfl (by repeat (first | exact List.Mem.head _ | refine List.Mem.tail _ ?_)) rfl) ?_
  refine WZ_val rfl rfl rfl rfl (R_move rfl rfl) ?_
  refine WZ_val rfl rfl rfl rfl (R_indexAddrN rfl Try.underlying116 Try.sizeOf3 rfl rfl (by omega)) ?_
  refine WZ_early rfl rfl rfl rfl (R_load (v := .int .i64 ((gt0 l a : Nat) : Int)) rfl sc3 rfl (by repeat (first | exact List.Mem.head _ | refine List.Mem.tail _ ?_)) (fm_get0 encN1 hla (j := 0) (by omega))) ?_
  refine WZ_rest ?_
  refine WM_val rfl rfl rfl rfl (R_indexAddrN rfl Try.underlying116 Try.sizeOf3 rfl rfl (by omega)) ?_
  refine WM_do0 rfl rfl rfl (D_store (vs := [_]) rfl Try.sizeOf3 rfl rfl rfl rfl rfl (by repeat (first | exact Pull.head | apply Pull.tail)) (by exact fm_room0 encN1 ha (j := 0) (by omega))) ?_
  rintro _ _ rfl
  refine ⟨⟨_, by repeat (first | exact Pulls.nil | exact Pulls.all | (apply Pulls.cons; (repeat (first | exact Pull.head | apply Pull.tail))) | apply Pulls.skip)⟩, ?_⟩
  have hput := fm_put0 encN1 (gt0 l b) hla (j := 0) (vs := [.int .i64 ((gt0 l b : Nat) : Int)]) (by simp) rfl (tl := tl)
  rw [Nat.add_zero] at hput
  rw [hput]
  refine WM_val rfl rfl rfl rfl (R_indexAddrN rfl Try.underlying116 Try.sizeOf3 rfl rfl (by omega)) ?_
  refine WM_do0 rfl rfl rfl (D_store (vs := [_]) rfl Try.sizeOf3 rfl rfl rfl rfl rfl (by repeat (first | exact Pull.head | apply Pull.tail)) (by exact fm_room0 encN1 (show b < (l.set a (gt0 l b)).length by rw [List.length_set]; exact hb) (j := 0) (by omega))) ?_
  rintro _ _ rfl
  refine ⟨⟨_, by repeat (first | exact Pulls.nil | exact Pulls.all | (apply Pulls.cons; (repeat (first | exact Pull.head | apply Pull.tail))) | apply Pulls.skip)⟩, ?_⟩
  obtain ⟨z9, hz9⟩ := exE (T := l.set a (gt0 l b)) (i := b) (by rw [List.length_set]; exact hb)
  have hput2 := fm_put0 encN1 (gt0 l a) hz9 (j := 0) (vs := [.int .i64 ((gt0 l a : Nat) : Int)]) (by simp) rfl (tl := tl)
  rw [Nat.add_zero] at hput2
  rw [hput2, show (l.set a (gt0 l b)).set b (gt0 l a) = sw l a b from rfl]
  refine WM_nil ?_
  refine WQ_code ?_
  refine WC_seq ?_
  refine WC_drawR [⟨some be, _⟩] [(0, true), (1, true), (2, true), (3, true), (4, true), (5, true), (6, true), (7, true), (8, true), (9, true), (10, true), (11, true), (12, false)] followsMixed rfl rfl (by kernel_rfl) (by repeat (first | exact Pulls.nil | exact Pulls.all | (apply Pulls.cons; (repeat (first | exact Pull.head | apply Pull.tail))) | apply Pulls.skip)) ?_
  refine WM_val rfl rfl rfl rfl (R_move rfl rfl) ?_
  refine WM_val rfl rfl rfl rfl (R_nilCheck rfl rfl) ?_
  refine WM_val rfl rfl rfl rfl (R_fieldAddr rfl fa136_2 rfl) ?_
  refine WM_val rfl rfl rfl rfl (R_load rfl sc134 rfl (by repeat (first | exact List.Mem.head _ | refine List.Mem.tail _ ?_)) rfl) ?_
  refine WM_val rfl rfl rfl rfl (R_move rfl rfl) ?_
  refine WM_val rfl rfl rfl rfl (R_nilCheck rfl rfl) ?_
  refine WM_val rfl rfl rfl rfl (R_fieldAddr rfl fa136_0 rfl) ?_
  refine WM_val rfl rfl rfl rfl (R_load rfl sc116 rfl (by repeat (first | exact List.Mem.head _ | refine List.Mem.tail _ ?_)) rfl) ?_
  refine WM_val rfl rfl rfl rfl (R_move rfl rfl) ?_
  refine WM_val rfl rfl rfl rfl (R_indexAddrN rfl Try.underlying116 Try.sizeOf3 rfl rfl (by omega)) ?_
  refine WM_val rfl rfl rfl rfl (R_load (v := .int .i64 ((gt0 l b : Nat) : Int)) rfl sc3 rfl (by repeat (first | exact List.Mem.head _ | refine List.Mem.tail _ ?_)) (fm_get0 encN1 hsa (j := 0) (by omega))) ?_
  refine WM_val rfl rfl rfl rfl (R_move rfl rfl) ?_
  refine WM_do rfl rfl rfl rfl (D_call (put_ok p bx be ne ce te n bl nl c tl E (sw l a b) hne (gt0 l b) (a : Int) y hy) rfl rfl rfl rfl (by repeat (first | exact Pulls.nil | exact Pulls.all | (apply Pulls.cons; (repeat (first | exact Pull.head | apply Pull.tail))) | apply Pulls.skip))) ?_
  rintro _ _ ⟨_, ⟨rfl, rfl⟩, rfl⟩
  refine ⟨⟨_, by repeat (first | exact Pulls.nil | exact Pulls.all | (apply Pulls.cons; (repeat (first | exact Pull.head | apply Pull.tail))) | apply Pulls.skip)⟩, ?_⟩
  refine WM_nil ?_
  refine WQ_code ?_
  refine WC_drawR [⟨some be, _⟩] [(0, true), (1, true), (2, true), (3, true), (4, true), (5, true), (6, true), (7, true), (8, true), (9, true), (10, true), (11, true), (12, false)] followsMixed rfl rfl (by kernel_rfl) (by repeat (first | exact Pulls.nil | exact Pulls.all | (apply Pulls.cons; (repeat (first | exact Pull.head | apply Pull.tail))) | apply Pulls.skip)) ?_
  refine WM_val rfl rfl rfl rfl (R_move rfl rfl) ?_
  refine WM_val rfl rfl rfl rfl (R_nilCheck rfl rfl) ?_
  refine WM_val rfl rfl rfl rfl (R_fieldAddr rfl fa136_2 rfl) ?_
  refine WM_val rfl rfl rfl rfl (R_load rfl sc134 rfl (by repeat (first | exact List.Mem.head _ | refine List.Mem.tail _ ?_)) rfl) ?_
  refine WM_val rfl rfl rfl rfl (R_move rfl rfl) ?_
  refine WM_val rfl rfl rfl rfl (R_nilCheck rfl rfl) ?_
  refine WM_val rfl rfl rfl rfl (R_fieldAddr rfl fa136_0 rfl) ?_
  refine WM_val rfl rfl rfl rfl (R_load rfl sc116 rfl (by repeat (first | exact List.Mem.head _ | refine List.Mem.tail _ ?_)) rfl) ?_
  refine WM_val rfl rfl rfl rfl (R_move rfl rfl) ?_
  refine WM_val rfl rfl rfl rfl (R_indexAddrN rfl Try.underlying116 Try.sizeOf3 rfl rfl (by omega)) ?_
  refine WM_val rfl rfl rfl rfl (R_load (v := .int .i64 ((gt0 l a : Nat) : Int)) rfl sc3 rfl (by repeat (first | exact List.Mem.head _ | refine List.Mem.tail _ ?_)) (fm_get0 encN1 hsb (j := 0) (by omega))) ?_
  refine WM_val rfl rfl rfl rfl (R_move rfl rfl) ?_
  refine WM_do rfl rfl rfl rfl (D_call (put_ok p bx be ne ce te n bl nl c tl (setp E (gt0 l b) (a : Int)) (sw l a b) (by rw [setp_len]; exact hne) (gt0 l a) (b : Int) _ (setp_get hx)) rfl rfl rfl rfl (by repeat (first | exact Pulls.nil | exact Pulls.all | (apply Pulls.cons; (repeat (first | exact Pull.head | apply Pull.tail))) | apply Pulls.skip))) ?_
  rintro _ _ ⟨_, ⟨rfl, rfl⟩, rfl⟩
  refine ⟨⟨_, by repeat (first | exact Pulls.nil | exact Pulls.all | (apply Pulls.cons; (repeat (first | exact Pull.head | apply Pull.tail))) | apply Pulls.skip)⟩, ?_⟩
  refine WM_nil ?_
  refine WQ_ret rfl rfl .nil rfl (by
      exact ⟨rfl, rfl⟩) (by repeat (first | exact Pulls.nil | exact Pulls.all | (apply Pulls.cons; (repeat (first | exact Pull.head | apply Pull.tail))) | apply Pulls.skip))

end Go.Proofs.Ytnkpefonocggfaa
