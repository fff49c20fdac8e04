/-
  Chapter 07 (slot), part Find: contracts of functions that the laws call, each for the heap it names.
-/
import Derived.Test.YtnolalkkdigcbaaRows
import Derived.Test.YtnolalkkdigcbaaSLArr
import Derived.Test.YtnolalkkdigcbaaTab
set_option linter.unusedVariables false
set_option maxRecDepth 20000
namespace Go.Proofs.Ytnolalkkdigcbaa


/-- A number of a table. -/
structure Pl where
  given : Int
  value : Int
  opn : Bool
def encP (x : Pl) : List Value := [.int .i64 x.given, .int .i64 x.value, .bool x.opn]
theorem encP3 (x : Pl) : (encP x).length = 3 := rfl
/-- A table in memory: the struct's block, the array's (c: its capacity, tl: its spare cells). -/
abbrev tabH (p pb c : Nat) (tl : List Value) (T : List Pl) : Heap := [⟨some p, cl [.slice (some ⟨pb, 0, none⟩) T.length c] 59⟩, ⟨some pb, cl (T.flatMap encP ++ tl) 78⟩]
/-- The numbers that a table has given. -/
structure Fine (T : List Pl) : Prop where
  ne : T ≠ []
  len : T.length ≤ 128
  all : ∀ x ∈ T, 0 ≤ x.given ∧ x.given ≤ 1000000
abbrev ptr (p : Nat) : Value := .pointer (some ⟨p, 0, none⟩)
abbrev fdV (n g : Int) : Value := .agg #[.int .i64 n, .int .i64 g]
/-- The open descriptor at place i. -/
def OpenAt (T : List Pl) (n g : Int) (i : Nat) (x : Pl) : Prop := n = (i : Int) ∧ T[i]? = some x ∧ x.opn = true ∧ g = x.given - 1
def NoneAt (T : List Pl) (n g : Int) : Prop := ∀ i x, ¬ OpenAt T n g i x
theorem lt_of {T : List Pl} {i : Nat} {x : Pl} (h : T[i]? = some x) : i < T.length := (List.getElem?_eq_some_iff.1 h).1
theorem Fine.bd {T : List Pl} (hT : Fine T) {i : Nat} {x : Pl} (h : T[i]? = some x) : 0 ≤ x.given ∧ x.given ≤ 1000000 := hT.all x (List.mem_of_getElem? h)
theorem Fine.pos {T : List Pl} (hT : Fine T) : 0 < T.length := List.length_pos_iff.2 hT.ne
theorem ex_of {T : List Pl} {i : Nat} (h : i < T.length) : ∃ x, T[i]? = some x := ⟨_, List.getElem?_eq_getElem h⟩
/-- What an iterator gives of the first k places. -/
def filesTo (T : List Pl) : Nat → List (Int × Int × Int)
  | 0 => []
  | k + 1 => filesTo T k ++ (match T[k]? with | some x => if x.opn then [((k : Int), x.given - 1, x.value)] else [] | none => [])
def encF (f : Int × Int × Int) : List Value := [fdV f.1 f.2.1, .int .i64 f.2.2]
abbrev files (T : List Pl) : List (Int × Int × Int) := filesTo T T.length
theorem filesTo_succ {T : List Pl} {k : Nat} {x : Pl} (h : T[k]? = some x) : filesTo T (k + 1) = filesTo T k ++ (if x.opn then [((k : Int), x.given - 1, x.value)] else []) := by simp [filesTo, h]
theorem filesTo_pre {T : List Pl} : ∀ {m k : Nat}, k ≤ m → ∃ r, filesTo T m = filesTo T k ++ r
  | 0, k, h => ⟨[], by have : k = 0 := by omega
                       subst this; simp⟩
  | m + 1, k, h => by
    by_cases e : k = m + 1
    · subst e; exact ⟨[], by simp⟩
    · obtain ⟨r, hr⟩ := filesTo_pre (T := T) (show k ≤ m by omega)
      exact ⟨_, by rw [filesTo, hr, List.append_assoc]⟩
theorem filesTo_len (T : List Pl) : ∀ k, (filesTo T k).length ≤ k
  | 0 => by simp [filesTo]
  | k + 1 => by
    have := filesTo_len T k
    simp only [filesTo, List.length_append]
    split
    · split <;> simp <;> omega
    · simp; omega

theorem zero_nil : Spec Try.prog 33 [.pointer none] [] (fun v H' => v = .bool true ∧ H' = []) := by
  refine Spec.of (E := [(0, .pointer none)]) Try.func33 rfl (by kernel_rfl) Try.ntmps33 rfl rfl (fun w => ?_)
  refine WC_seq ?_
  refine WC_region ?_
  refine WL_val rfl rfl rfl (R_assign rfl rfl) ?_
  refine WL_nil ?_
  refine WQ_code ?_
  refine WC_seq ?_
  refine WC_region ?_
  refine WL_val rfl rfl rfl (R_move rfl rfl) ?_
  refine WL_val rfl rfl rfl (R_ptrEqNil rfl Try.underlying24 rfl) ?_
  refine WL_val rfl rfl rfl (R_move rfl rfl) ?_
  refine WL_skip rfl rfl rfl ?_
  refine WL_skip rfl rfl rfl ?_
  refine WL_skip rfl rfl rfl ?_
  refine WL_skip rfl rfl rfl ?_
  refine WL_skip rfl rfl rfl ?_
  refine WL_skip rfl rfl rfl ?_
  refine WL_val rfl rfl rfl (R_pickT rfl rfl rfl) ?_
  refine WL_val rfl rfl rfl (R_assign rfl rfl) ?_
  refine WL_nil ?_
  refine WQ_code ?_
  refine WC_ret ?_
  refine WQ_ret rfl rfl (.cons (.tmp rfl) .nil) rfl (by
      exact ⟨rfl, rfl⟩) (by repeat (first | exact Pulls.nil | exact Pulls.all | (apply Pulls.cons; (repeat (first | exact Pull.head | apply Pull.tail))) | apply Pulls.skip))
theorem zero_some (p pb c : Nat) (tl : List Value) (T : List Pl) (hT : T ≠ []) : Spec Try.prog 33 [ptr p] (tabH p pb c tl T) (fun v H' => v = .bool false ∧ H' = tabH p pb c tl T) := by
  have hlen : 0 < T.length := List.length_pos_iff.2 hT
  refine Spec.of (E := [(0, ptr p)]) Try.func33 rfl (by kernel_rfl) Try.ntmps33 rfl rfl (fun w => ?_)
  refine WC_seq ?_
  refine WC_region ?_
  refine WL_val rfl rfl rfl (R_assign rfl rfl) ?_
  refine WL_nil ?_
  refine WQ_code ?_
  refine WC_seq ?_
  refine WC_region ?_
  refine WL_val rfl rfl rfl (R_move rfl rfl) ?_
  refine WL_val rfl rfl rfl (R_ptrEqNil rfl Try.underlying24 rfl) ?_
  refine WL_val rfl rfl rfl (R_move rfl rfl) ?_
  refine WL_val rfl rfl rfl (R_move rfl rfl) ?_
  refine WL_val rfl rfl rfl (R_nilCheck rfl rfl) ?_
  refine WL_val rfl rfl rfl (R_fieldAddr rfl fa59_0 rfl) ?_
  refine WL_val rfl rfl rfl (R_load rfl sc57 rfl (by repeat (first | exact List.Mem.head _ | refine List.Mem.tail _ ?_)) rfl) ?_
  refine WL_val rfl rfl rfl (R_len rfl Try.underlying57 rfl) ?_
  refine WL_val rfl rfl rfl (R_eql rfl rfl rfl) ?_
  refine WL_val rfl rfl rfl (R_pickF rfl rfl rfl) ?_
  refine WL_val rfl rfl rfl (R_assign rfl rfl) ?_
  refine WL_nil ?_
  refine WQ_code ?_
  refine WC_ret ?_
  refine WQ_ret rfl rfl (.cons (.tmp rfl) .nil) rfl (by
      exact ⟨congrArg Value.bool (by simp; exact hT), rfl⟩) (by repeat (first | exact Pulls.nil | exact Pulls.all | (apply Pulls.cons; (repeat (first | exact Pull.head | apply Pull.tail))) | apply Pulls.skip))
theorem zero_zero (p : Nat) : Spec Try.prog 33 [ptr p] [⟨some p, cl [.slice none 0 0] 59⟩] (fun v H' => v = .bool true ∧ H' = [⟨some p, cl [.slice none 0 0] 59⟩]) := by
  refine Spec.of (E := [(0, ptr p)]) Try.func33 rfl (by kernel_rfl) Try.ntmps33 rfl rfl (fun w => ?_)
  refine WC_seq ?_
  refine WC_region ?_
  refine WL_val rfl rfl rfl (R_assign rfl rfl) ?_
  refine WL_nil ?_
  refine WQ_code ?_
  refine WC_seq ?_
  refine WC_region ?_
  refine WL_val rfl rfl rfl (R_move rfl rfl) ?_
  refine WL_val rfl rfl rfl (R_ptrEqNil rfl Try.underlying24 rfl) ?_
  refine WL_val rfl rfl rfl (R_move rfl rfl) ?_
  refine WL_val rfl rfl rfl (R_move rfl rfl) ?_
  refine WL_val rfl rfl rfl (R_nilCheck rfl rfl) ?_
  refine WL_val rfl rfl rfl (R_fieldAddr rfl fa59_0 rfl) ?_
  refine WL_val rfl rfl rfl (R_load rfl sc57 rfl (by repeat (first | exact List.Mem.head _ | refine List.Mem.tail _ ?_)) rfl) ?_
  refine WL_val rfl rfl rfl (R_len rfl Try.underlying57 rfl) ?_
  refine WL_val rfl rfl rfl (R_eql rfl rfl rfl) ?_
  refine WL_val rfl rfl rfl (R_pickF rfl rfl rfl) ?_
  refine WL_val rfl rfl rfl (R_assign rfl rfl) ?_
  refine WL_nil ?_
  refine WQ_code ?_
  refine WC_ret ?_
  refine WQ_ret rfl rfl (.cons (.tmp rfl) .nil) rfl (by
      exact ⟨rfl, rfl⟩) (by repeat (first | exact Pulls.nil | exact Pulls.all | (apply Pulls.cons; (repeat (first | exact Pull.head | apply Pull.tail))) | apply Pulls.skip))

theorem find_yes (p pb c : Nat) (tl : List Value) (T : List Pl) (hT : Fine T) (n g : Int) (i : Nat) (x : Pl) (h : OpenAt T n g i x) : Spec Try.prog 34 [ptr p, fdV n g] (tabH p pb c tl T)
    (fun v H' => v = .tuple #[.pointer (some ⟨pb, 0 + i * 3, none⟩), .int .i64 0] ∧ H' = tabH p pb c tl T) := by
  obtain ⟨rfl, hx, ho, rfl⟩ := h
  have hb := hT.bd hx
  have hlt := lt_of hx
  refine Spec.of (E := [(0, ptr p), (1, fdV (i : Int) (x.given - 1))]) Try.func34 rfl (by kernel_rfl) Try.ntmps34 rfl rfl (fun w => ?_)
  refine WC_seq ?_
  refine WC_region ?_
  refine WL_do rfl rfl rfl (D_box (cs := [_, _]) rfl rfl rfl) ?_
  rintro _ _ ⟨b1, rfl, rfl⟩
  refine WL_val rfl rfl rfl (R_assign rfl rfl) ?_
  refine WL_val rfl rfl rfl (R_assign rfl rfl) ?_
  refine WL_nil ?_
  refine WQ_code ?_
  refine WC_seq ?_
  refine WC_seq ?_
  refine WC_region ?_
  refine WL_val rfl rfl rfl (R_move rfl rfl) ?_
  refine WL_do rfl rfl rfl (D_call (zero_some p pb c tl T hT.ne) rfl rfl rfl rfl (by repeat (first | exact Pulls.nil | exact Pulls.all | (apply Pulls.cons; (repeat (first | exact Pull.head | apply Pull.tail))) | apply Pulls.skip))) ?_
  rintro _ _ ⟨_, ⟨rfl, rfl⟩, rfl⟩
  refine WL_nil ?_
  refine WQ_code ?_
  refine WC_F rfl ?_
  refine WC_skip ?_
  refine WQ_code ?_
  refine WC_seq ?_
  refine WC_seq ?_
  refine WC_draw _ [(0, true), (1, true), (2, true), (3, true), (4, true), (5, true), (6, true), (7, true), (8, true), (9, true), (10, true), (11, true), (12, true)] followsMixed rfl rfl (by kernel_rfl) .all ?_
  refine WM_val rfl rfl rfl rfl (R_fieldAddr rfl fa34_0 rfl) ?_
  refine WM_val rfl rfl rfl rfl (R_load rfl sc3 rfl (by repeat (first | exact List.Mem.head _ | refine List.Mem.tail _ ?_)) rfl) ?_
  refine WM_val rfl rfl rfl rfl (R_lss rfl rfl rfl) ?_
  refine WM_val rfl rfl rfl rfl (R_move rfl rfl) ?_
  refine WM_set (s := 12) (v := .bool false) rfl (by simp) ?_
  refine WM_val rfl rfl rfl rfl (R_fieldAddr rfl fa34_0 rfl) ?_
  refine WM_val rfl rfl rfl rfl (R_load rfl sc3 rfl (by repeat (first | exact List.Mem.head _ | refine List.Mem.tail _ ?_)) rfl) ?_
  refine WM_val rfl rfl rfl rfl (R_move rfl rfl) ?_
  refine WM_val rfl rfl rfl rfl (R_nilCheck rfl rfl) ?_
  refine WM_val rfl rfl rfl rfl (R_fieldAddr rfl fa59_0 rfl) ?_
  refine WM_val rfl rfl rfl rfl (R_load rfl sc57 rfl (by repeat (first | exact List.Mem.head _ | refine List.Mem.tail _ ?_)) rfl) ?_
  refine WM_val rfl rfl rfl rfl (R_len rfl Try.underlying57 rfl) ?_
  refine WM_val rfl rfl rfl rfl (R_geq rfl rfl rfl) ?_
  refine WM_val rfl rfl rfl rfl (R_pickF rfl rfl rfl) ?_
  refine WM_nil ?_
  refine WQ_code ?_
  refine WC_dF rfl (by omega) ?_
  refine WC_skip ?_
  refine WQ_code ?_
  refine WC_seq ?_
  refine WC_draw _ [(0, true), (1, true), (2, true), (3, true), (4, true), (5, true), (6, true), (7, true)] followsMixed rfl rfl (by kernel_rfl) .all ?_
  refine WM_val rfl rfl rfl rfl (R_move rfl rfl) ?_
  refine WM_val rfl rfl rfl rfl (R_nilCheck rfl rfl) ?_
  refine WM_val rfl rfl rfl rfl (R_fieldAddr rfl fa59_0 rfl) ?_
  refine WM_val rfl rfl rfl rfl (R_load rfl sc57 rfl (by repeat (first | exact List.Mem.head _ | refine List.Mem.tail _ ?_)) rfl) ?_
  refine WM_val rfl rfl rfl rfl (R_fieldAddr rfl fa34_0 rfl) ?_
  refine WM_val rfl rfl rfl rfl (R_load rfl sc3 rfl (by repeat (first | exact List.Mem.head _ | refine List.Mem.tail _ ?_)) rfl) ?_
  refine WM_val rfl rfl rfl rfl (R_indexAddrN rfl Try.underlying57 Try.sizeOf78 rfl rfl (by exact hlt)) ?_
  refine WM_val rfl rfl rfl rfl (R_assign rfl rfl) ?_
  refine WM_nil ?_
  refine WQ_code ?_
  refine WC_seq ?_
  refine WC_seq ?_
  refine WC_draw _ [(0, true), (1, true), (2, true), (3, true), (4, true), (5, true), (6, true), (7, true), (8, true), (9, true), (10, true), (11, true), (12, true), (13, true), (14, true)] followsMixed rfl rfl (by kernel_rfl) .all ?_
  refine WM_val rfl rfl rfl rfl (R_move rfl rfl) ?_
  refine WM_val rfl rfl rfl rfl (R_nilCheck rfl rfl) ?_
  refine WM_val rfl rfl rfl rfl (R_fieldAddr rfl fa78_2 rfl) ?_
  refine WM_val rfl rfl rfl rfl (R_load rfl sc4 rfl (by repeat (first | exact List.Mem.head _ | refine List.Mem.tail _ ?_)) (fm_get0 encP3 hx (by omega))) ?_
  refine WM_val rfl rfl rfl rfl (R_not rfl rfl) ?_
  refine WM_val rfl rfl rfl rfl (R_move rfl rfl) ?_
  refine WM_set (s := 34) (v := .bool false) rfl (by simp [ho]) ?_
  refine WM_val rfl rfl rfl rfl (R_fieldAddr rfl fa34_1 rfl) ?_
  refine WM_val rfl rfl rfl rfl (R_load rfl sc3 rfl (by repeat (first | exact List.Mem.head _ | refine List.Mem.tail _ ?_)) rfl) ?_
  refine WM_val rfl rfl rfl rfl (R_move rfl rfl) ?_
  refine WM_val rfl rfl rfl rfl (R_nilCheck rfl rfl) ?_
  refine WM_val rfl rfl rfl rfl (R_fieldAddr rfl fa78_0 rfl) ?_
  refine WM_val rfl rfl rfl rfl (R_load rfl sc3 rfl (by repeat (first | exact List.Mem.head _ | refine List.Mem.tail _ ?_)) (fm_get0 encP3 hx (by omega))) ?_
  refine WM_val rfl rfl rfl rfl (R_sub rfl rfl rfl (by omega)) ?_
  refine WM_val rfl rfl rfl rfl (R_neq rfl rfl rfl) ?_
  refine WM_val rfl rfl rfl rfl (R_pickF rfl rfl rfl) ?_
  refine WM_nil ?_
  refine WQ_code ?_
  refine WC_dF rfl (by simp) ?_
  refine WC_skip ?_
  refine WQ_code ?_
  refine WC_seq ?_
  refine WC_region ?_
  refine WL_val rfl rfl rfl (R_move rfl rfl) ?_
  refine WL_val rfl rfl rfl (R_assign rfl rfl) ?_
  refine WL_val rfl rfl rfl (R_assign rfl rfl) ?_
  refine WL_nil ?_
  refine WQ_code ?_
  refine WC_ret ?_
  refine WQ_ret rfl rfl (.cons (.tmp rfl) (.cons (.tmp rfl) .nil)) rfl (by
      exact ⟨rfl, rfl⟩) (by repeat (first | exact Pulls.nil | exact Pulls.all | (apply Pulls.cons; (repeat (first | exact Pull.head | apply Pull.tail))) | apply Pulls.skip))
theorem find_no (p pb c : Nat) (tl : List Value) (T : List Pl) (hT : Fine T) (n g : Int) (h : NoneAt T n g) : Spec Try.prog 34 [ptr p, fdV n g] (tabH p pb c tl T)
    (fun v H' => v = .tuple #[.pointer none, .int .i64 9] ∧ H' = tabH p pb c tl T) := by
  refine Spec.of (E := [(0, ptr p), (1, fdV n g)]) Try.func34 rfl (by kernel_rfl) Try.ntmps34 rfl rfl (fun w => ?_)
  refine WC_seq ?_
  refine WC_region ?_
  refine WL_do rfl rfl rfl (D_box (cs := [_, _]) rfl rfl rfl) ?_
  rintro _ _ ⟨b1, rfl, rfl⟩
  refine WL_val rfl rfl rfl (R_assign rfl rfl) ?_
  refine WL_val rfl rfl rfl (R_assign rfl rfl) ?_
  refine WL_nil ?_
  refine WQ_code ?_
  refine WC_seq ?_
  refine WC_seq ?_
  refine WC_region ?_
  refine WL_val rfl rfl rfl (R_move rfl rfl) ?_
  refine WL_do rfl rfl rfl (D_call (zero_some p pb c tl T hT.ne) rfl rfl rfl rfl (by repeat (first | exact Pulls.nil | exact Pulls.all | (apply Pulls.cons; (repeat (first | exact Pull.head | apply Pull.tail))) | apply Pulls.skip))) ?_
  rintro _ _ ⟨_, ⟨rfl, rfl⟩, rfl⟩
  refine WL_nil ?_
  refine WQ_code ?_
  refine WC_F rfl ?_
  refine WC_skip ?_
  refine WQ_code ?_
  refine WC_seq ?_
  refine WC_seq ?_
  refine WC_draw _ [(0, true), (1, true), (2, true), (3, true), (4, true), (5, true), (6, true), (7, true), (8, true), (9, true), (10, true), (11, true), (12, true)] followsMixed rfl rfl (by kernel_rfl) .all ?_
  refine WM_val rfl rfl rfl rfl (R_fieldAddr rfl fa34_0 rfl) ?_
  refine WM_val rfl rfl rfl rfl (R_load rfl sc3 rfl (by repeat (first | exact List.Mem.head _ | refine List.Mem.tail _ ?_)) rfl) ?_
  refine WM_val rfl rfl rfl rfl (R_lss rfl rfl rfl) ?_
  refine WM_val rfl rfl rfl rfl (R_move rfl rfl) ?_
  refine WM_splitD (s := 12) rfl (fun c1 => ?_) (fun c1 => ?_)
  · refine WM_skip rfl rfl rfl rfl ?_
    refine WM_skip rfl rfl rfl rfl ?_
    refine WM_skip rfl rfl rfl rfl ?_
    refine WM_skip rfl rfl rfl rfl ?_
    refine WM_skip rfl rfl rfl rfl ?_
    refine WM_skip rfl rfl rfl rfl ?_
    refine WM_skip rfl rfl rfl rfl ?_
    refine WM_skip rfl rfl rfl rfl ?_
    refine WM_val rfl rfl rfl rfl (R_pickT rfl rfl rfl) ?_
    refine WM_nil ?_
    refine WQ_code ?_
    refine WC_T rfl ?_
    refine WC_seq ?_
    refine WC_region ?_
    refine WL_val rfl rfl rfl (R_assign rfl rfl) ?_
    refine WL_val rfl rfl rfl (R_assign rfl rfl) ?_
    refine WL_nil ?_
    refine WQ_code ?_
    refine WC_ret ?_
    refine WQ_ret rfl rfl (.cons (.tmp rfl) (.cons (.tmp rfl) .nil)) rfl (by
        exact ⟨rfl, rfl⟩) (by repeat (first | exact Pulls.nil | exact Pulls.all | (apply Pulls.cons; (repeat (first | exact Pull.head | apply Pull.tail))) | apply Pulls.skip))
  · refine WM_val rfl rfl rfl rfl (R_fieldAddr rfl fa34_0 rfl) ?_
    refine WM_val rfl rfl rfl rfl (R_load rfl sc3 rfl (by repeat (first | exact List.Mem.head _ | refine List.Mem.tail _ ?_)) rfl) ?_
    refine WM_val rfl rfl rfl rfl (R_move rfl rfl) ?_
    refine WM_val rfl rfl rfl rfl (R_nilCheck rfl rfl) ?_
    refine WM_val rfl rfl rfl rfl (R_fieldAddr rfl fa59_0 rfl) ?_
    refine WM_val rfl rfl rfl rfl (R_load rfl sc57 rfl (by repeat (first | exact List.Mem.head _ | refine List.Mem.tail _ ?_)) rfl) ?_
    refine WM_val rfl rfl rfl rfl (R_len rfl Try.underlying57 rfl) ?_
    refine WM_val rfl rfl rfl rfl (R_geq rfl rfl rfl) ?_
    refine WM_val rfl rfl rfl rfl (R_pickF rfl rfl rfl) ?_
    refine WM_nil ?_
    refine WQ_code ?_
    refine WC_dec rfl (fun c2 => ?_) (fun c2 => ?_)
    · refine WC_seq ?_
      refine WC_region ?_
      refine WL_val rfl rfl rfl (R_assign rfl rfl) ?_
      refine WL_val rfl rfl rfl (R_assign rfl rfl) ?_
      refine WL_nil ?_
      refine WQ_code ?_
      refine WC_ret ?_
      refine WQ_ret rfl rfl (.cons (.tmp rfl) (.cons (.tmp rfl) .nil)) rfl (by
          exact ⟨rfl, rfl⟩) (by repeat (first | exact Pulls.nil | exact Pulls.all | (apply Pulls.cons; (repeat (first | exact Pull.head | apply Pull.tail))) | apply Pulls.skip))
    · refine WC_skip ?_
      refine WQ_code ?_
      refine WC_seq ?_
      refine WC_draw _ [(0, true), (1, true), (2, true), (3, true), (4, true), (5, true), (6, true), (7, true)] followsMixed rfl rfl (by kernel_rfl) .all ?_
      refine WM_val rfl rfl rfl rfl (R_move rfl rfl) ?_
      refine WM_val rfl rfl rfl rfl (R_nilCheck rfl rfl) ?_
      refine WM_val rfl rfl rfl rfl (R_fieldAddr rfl fa59_0 rfl) ?_
      refine WM_val rfl rfl rfl rfl (R_load rfl sc57 rfl (by repeat (first | exact List.Mem.head _ | refine List.Mem.tail _ ?_)) rfl) ?_
      refine WM_val rfl rfl rfl rfl (R_fieldAddr rfl fa34_0 rfl) ?_
      refine WM_val rfl rfl rfl rfl (R_load rfl sc3 rfl (by repeat (first | exact List.Mem.head _ | refine List.Mem.tail _ ?_)) rfl) ?_
      obtain ⟨x, hx⟩ := ex_of (T := T) (i := n.toNat) (by omega)
      have hb := hT.bd hx
      refine WM_val rfl rfl rfl rfl (R_indexAddr rfl Try.underlying57 Try.sizeOf78 rfl rfl (by exact ⟨by omega, by omega⟩)) ?_
      refine WM_val rfl rfl rfl rfl (R_assign rfl rfl) ?_
      refine WM_nil ?_
      refine WQ_code ?_
      refine WC_seq ?_
      refine WC_seq ?_
      refine WC_draw _ [(0, true), (1, true), (2, true), (3, true), (4, true), (5, true), (6, true), (7, true), (8, true), (9, true), (10, true), (11, true), (12, true), (13, true), (14, true)] followsMixed rfl rfl (by kernel_rfl) .all ?_
      refine WM_val rfl rfl rfl rfl (R_move rfl rfl) ?_
      refine WM_val rfl rfl rfl rfl (R_nilCheck rfl rfl) ?_
      refine WM_val rfl rfl rfl rfl (R_fieldAddr rfl fa78_2 rfl) ?_
      refine WM_val rfl rfl rfl rfl (R_load rfl sc4 rfl (by repeat (first | exact List.Mem.head _ | refine List.Mem.tail _ ?_)) (fm_get0 encP3 hx (by omega))) ?_
      refine WM_val rfl rfl rfl rfl (R_not rfl rfl) ?_
      refine WM_val rfl rfl rfl rfl (R_move rfl rfl) ?_
      refine WM_split (s := 34) rfl (fun c3 => ?_) (fun c3 => ?_)
      · refine WM_skip rfl rfl rfl rfl ?_
        refine WM_skip rfl rfl rfl rfl ?_
        refine WM_skip rfl rfl rfl rfl ?_
        refine WM_skip rfl rfl rfl rfl ?_
        refine WM_skip rfl rfl rfl rfl ?_
        refine WM_skip rfl rfl rfl rfl ?_
        refine WM_skip rfl rfl rfl rfl ?_
        refine WM_skip rfl rfl rfl rfl ?_
        refine WM_val rfl rfl rfl rfl (R_pickT rfl rfl rfl) ?_
        refine WM_nil ?_
        refine WQ_code ?_
        refine WC_T rfl ?_
        refine WC_seq ?_
        refine WC_region ?_
        refine WL_val rfl rfl rfl (R_assign rfl rfl) ?_
        refine WL_val rfl rfl rfl (R_assign rfl rfl) ?_
        refine WL_nil ?_
        refine WQ_code ?_
        refine WC_ret ?_
        refine WQ_ret rfl rfl (.cons (.tmp rfl) (.cons (.tmp rfl) .nil)) rfl (by
            exact ⟨rfl, rfl⟩) (by repeat (first | exact Pulls.nil | exact Pulls.all | (apply Pulls.cons; (repeat (first | exact Pull.head | apply Pull.tail))) | apply Pulls.skip))
      · refine WM_val rfl rfl rfl rfl (R_fieldAddr rfl fa34_1 rfl) ?_
        refine WM_val rfl rfl rfl rfl (R_load rfl sc3 rfl (by repeat (first | exact List.Mem.head _ | refine List.Mem.tail _ ?_)) rfl) ?_
        refine WM_val rfl rfl rfl rfl (R_move rfl rfl) ?_
        refine WM_val rfl rfl rfl rfl (R_nilCheck rfl rfl) ?_
        refine WM_val rfl rfl rfl rfl (R_fieldAddr rfl fa78_0 rfl) ?_
        refine WM_val rfl rfl rfl rfl (R_load rfl sc3 rfl (by repeat (first | exact List.Mem.head _ | refine List.Mem.tail _ ?_)) (fm_get0 encP3 hx (by omega))) ?_
        refine WM_val rfl rfl rfl rfl (R_sub rfl rfl rfl (by omega)) ?_
        refine WM_val rfl rfl rfl rfl (R_neq rfl rfl rfl) ?_
        refine WM_val rfl rfl rfl rfl (R_pickF rfl rfl rfl) ?_
        refine WM_nil ?_
        refine WQ_code ?_
        refine WC_dec rfl (fun c4 => ?_) (fun c4 => ?_)
        · refine WC_seq ?_
          refine WC_region ?_
          refine WL_val rfl rfl rfl (R_assign rfl rfl) ?_
          refine WL_val rfl rfl rfl (R_assign rfl rfl) ?_
          refine WL_nil ?_
          refine WQ_code ?_
          refine WC_ret ?_
          refine WQ_ret rfl rfl (.cons (.tmp rfl) (.cons (.tmp rfl) .nil)) rfl (by
              exact ⟨rfl, rfl⟩) (by repeat (first | exact Pulls.nil | exact Pulls.all | (apply Pulls.cons; (repeat (first | exact Pull.head | apply Pull.tail))) | apply Pulls.skip))
        · exfalso
          exact h n.toNat x ⟨by omega, hx, by simp_all, by omega⟩
theorem find_nil (n g : Int) : Spec Try.prog 34 [.pointer none, fdV n g] [] (fun v H' => v = .tuple #[.pointer none, .int .i64 1] ∧ H' = []) := by
  refine Spec.of (E := [(0, .pointer none), (1, fdV n g)]) Try.func34 rfl (by kernel_rfl) Try.ntmps34 rfl rfl (fun w => ?_)
  refine WC_seq ?_
  refine WC_region ?_
  refine WL_do rfl rfl rfl (D_box (cs := [_, _]) rfl rfl rfl) ?_
  rintro _ _ ⟨b1, rfl, rfl⟩
  refine WL_val rfl rfl rfl (R_assign rfl rfl) ?_
  refine WL_val rfl rfl rfl (R_assign rfl rfl) ?_
  refine WL_nil ?_
  refine WQ_code ?_
  refine WC_seq ?_
  refine WC_seq ?_
  refine WC_region ?_
  refine WL_val rfl rfl rfl (R_move rfl rfl) ?_
  refine WL_do rfl rfl rfl (D_call (zero_nil) rfl rfl rfl rfl (by repeat (first | exact Pulls.nil | exact Pulls.all | (apply Pulls.cons; (repeat (first | exact Pull.head | apply Pull.tail))) | apply Pulls.skip))) ?_
  rintro _ _ ⟨_, ⟨rfl, rfl⟩, rfl⟩
  refine WL_nil ?_
  refine WQ_code ?_
  refine WC_T rfl ?_
  refine WC_seq ?_
  refine WC_region ?_
  refine WL_val rfl rfl rfl (R_assign rfl rfl) ?_
  refine WL_val rfl rfl rfl (R_assign rfl rfl) ?_
  refine WL_nil ?_
  refine WQ_code ?_
  refine WC_ret ?_
  refine WQ_ret rfl rfl (.cons (.tmp rfl) (.cons (.tmp rfl) .nil)) rfl (by
      exact ⟨rfl, rfl⟩) (by repeat (first | exact Pulls.nil | exact Pulls.all | (apply Pulls.cons; (repeat (first | exact Pull.head | apply Pull.tail))) | apply Pulls.skip))
theorem find_zero (p : Nat) (n g : Int) : Spec Try.prog 34 [ptr p, fdV n g] [⟨some p, cl [.slice none 0 0] 59⟩] (fun v H' => v = .tuple #[.pointer none, .int .i64 1] ∧ H' = [⟨some p, cl [.slice none 0 0] 59⟩]) := by
  refine Spec.of (E := [(0, ptr p), (1, fdV n g)]) Try.func34 rfl (by kernel_rfl) Try.ntmps34 rfl rfl (fun w => ?_)
  refine WC_seq ?_
  refine WC_region ?_
  refine WL_do rfl rfl rfl (D_box (cs := [_, _]) rfl rfl rfl) ?_
  rintro _ _ ⟨b1, rfl, rfl⟩
  refine WL_val rfl rfl rfl (R_assign rfl rfl) ?_
  refine WL_val rfl rfl rfl (R_assign rfl rfl) ?_
  refine WL_nil ?_
  refine WQ_code ?_
  refine WC_seq ?_
  refine WC_seq ?_
  refine WC_region ?_
  refine WL_val rfl rfl rfl (R_move rfl rfl) ?_
  refine WL_do rfl rfl rfl (D_call (zero_zero p) rfl rfl rfl rfl (by repeat (first | exact Pulls.nil | exact Pulls.all | (apply Pulls.cons; (repeat (first | exact Pull.head | apply Pull.tail))) | apply Pulls.skip))) ?_
  rintro _ _ ⟨_, ⟨rfl, rfl⟩, rfl⟩
  refine WL_nil ?_
  refine WQ_code ?_
  refine WC_T rfl ?_
  refine WC_seq ?_
  refine WC_region ?_
  refine WL_val rfl rfl rfl (R_assign rfl rfl) ?_
  refine WL_val rfl rfl rfl (R_assign rfl rfl) ?_
  refine WL_nil ?_
  refine WQ_code ?_
  refine WC_ret ?_
  refine WQ_ret rfl rfl (.cons (.tmp rfl) (.cons (.tmp rfl) .nil)) rfl (by
      exact ⟨rfl, rfl⟩) (by repeat (first | exact Pulls.nil | exact Pulls.all | (apply Pulls.cons; (repeat (first | exact Pull.head | apply Pull.tail))) | apply Pulls.skip))

end Go.Proofs.Ytnolalkkdigcbaa
