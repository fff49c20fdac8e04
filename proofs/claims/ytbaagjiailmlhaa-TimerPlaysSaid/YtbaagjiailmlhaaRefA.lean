/-
  Chapter 03 (timer), part RefA: contracts of functions that the laws call, each for the heap it names.
-/
import Derived.Test.YtbaagjiailmlhaaRows
import Derived.Test.YtbaagjiailmlhaaSLPhase
import Derived.Test.YtbaagjiailmlhaaSLInt
import Derived.Test.YtbaagjiailmlhaaTab
import Derived.Test.YtbaagjiailmlhaaTimerC
import Derived.Test.YtbaagjiailmlhaaSLMore
set_option linter.unusedVariables false
set_option maxRecDepth 20000
set_option maxHeartbeats 2000000
namespace Go.Proofs.Ytbaagjiailmlhaa


abbrev encR (t : Tm) : List Value := [.int .i64 (t.n : Int), .int .i64 (t.gen : Int), .int .i64 t.own, .int .u64 (t.tm : Int), .bool t.gone]
theorem encR5 (t : Tm) : (encR t).length = 5 := rfl
theorem oneR (l : List Tm) : (l.flatMap encR).all Value.oneCell' = true := fm_all (fun _ => rfl) l
theorem take_snoc {L : List Tm} {j : Nat} {x : Tm} (h : L[j]? = some x) : L.take (j + 1) = L.take j ++ [x] := by
  obtain ⟨h1, rfl⟩ := List.getElem?_eq_some_iff.1 h
  rw [List.take_append_getElem]
theorem live_snoc (A : List Tm) (x : Tm) : (live (A ++ [x])).length = (live A).length + (if x.gone = true then 0 else 1) := by
  rw [live, live, List.filter_append, List.length_append]
  cases h : x.gone <;> simp [h]
theorem fst_snoc (A : List Tm) (x : Tm) : fstP (A ++ [x]) = if x.gone = true then fstP A else match fstP A with
    | none => some (A.length, x)
    | some (i, t) => if x.tm < t.tm then some (A.length, x) else some (i, t) := by
  have hx : (A ++ [x])[A.length]? = some x := by rw [List.getElem?_append_right (Nat.le_refl _), Nat.sub_self]; rfl
  have hget : ∀ (j : Nat) (u : Tm), (A ++ [x])[j]? = some u → A[j]? = some u ∨ (j = A.length ∧ u = x) := fun j u hj => by
    by_cases hl : j < A.length
    · rw [List.getElem?_append_left hl] at hj; exact .inl hj
    · have := (List.getElem?_eq_some_iff.1 hj).1
      rw [List.length_append, List.length_singleton] at this
      have e : j = A.length := by omega
      subst e
      rw [hx] at hj
      exact .inr ⟨rfl, (Option.some.inj hj).symm⟩
  cases hg : x.gone with
  | true =>
    rw [if_pos rfl]
    cases hf : fstP A with
    | none =>
      rw [fstP_none] at hf ⊢
      intro t ht
      rcases List.mem_append.1 ht with ht | ht
      · exact hf t ht
      · rw [List.mem_singleton] at ht; rw [ht]; exact hg
    | some y =>
      obtain ⟨i, t⟩ := y
      have hs := fstP_some hf
      refine IsFst.eq ⟨by rw [List.getElem?_append_left (List.getElem?_eq_some_iff.1 hs.at_).1]; exact hs.at_, hs.g, fun j u hj hu => ?_⟩
      rcases hget j u hj with h | ⟨_, rfl⟩
      · exact hs.min j u h hu
      · rw [hg] at hu; cases hu
  | false =>
    rw [if_neg (by decide)]
    cases hf : fstP A with
    | none =>
      rw [fstP_none] at hf
      refine IsFst.eq ⟨hx, hg, fun j u hj hu => ?_⟩
      rcases hget j u hj with h | ⟨rfl, rfl⟩
      · have := hf u (List.mem_of_getElem? h)
        rw [hu] at this; cases this
      · exact .inr ⟨rfl, Nat.le_refl _⟩
    | some y =>
      obtain ⟨i, t⟩ := y
      have hs := fstP_some hf
      have hi := (List.getElem?_eq_some_iff.1 hs.at_).1
      dsimp only
      by_cases hlt : x.tm < t.tm
      · rw [if_pos hlt]
        refine IsFst.eq ⟨hx, hg, fun j u hj hu => ?_⟩
        rcases hget j u hj with h | ⟨rfl, rfl⟩
        · have := hs.min j u h hu; omega
        · exact .inr ⟨rfl, Nat.le_refl _⟩
      · rw [if_neg hlt]
        refine IsFst.eq ⟨by rw [List.getElem?_append_left hi]; exact hs.at_, hs.g, fun j u hj hu => ?_⟩
        rcases hget j u hj with h | ⟨rfl, rfl⟩
        · exact hs.min j u h hu
        · omega
def fiI (L : List Tm) : Int := match fstP L with
  | none => -1
  | some (i, _) => (i : Int)
theorem fiI_none {L : List Tm} (h : fstP L = none) : fiI L = -1 := by rw [fiI, h]
theorem fiI_some {L : List Tm} {i : Nat} {t : Tm} (h : fstP L = some (i, t)) : fiI L = (i : Int) := by rw [fiI, h]
theorem fi_new {L : List Tm} {j : Nat} {x : Tm} (hx : L[j]? = some x) (hg : x.gone = false) (h : fstP (L.take j) = none ∨ ∃ i t, fstP (L.take j) = some (i, t) ∧ x.tm < t.tm) : fiI (L.take (j + 1)) = (j : Int) := by
  have hl : (L.take j).length = j := by rw [List.length_take]; have := (List.getElem?_eq_some_iff.1 hx).1; omega
  rw [fiI, take_snoc hx, fst_snoc, if_neg (by rw [hg]; decide)]
  rcases h with h | ⟨i, t, h, hlt⟩
  · rw [h]; dsimp only; rw [hl]
  · rw [h]; dsimp only; rw [if_pos hlt]; dsimp only; rw [hl]
theorem fi_gone {L : List Tm} {j : Nat} {x : Tm} (hx : L[j]? = some x) (hg : x.gone = true) : fiI (L.take (j + 1)) = fiI (L.take j) := by
  rw [fiI, take_snoc hx, fst_snoc, if_pos hg, fiI]
theorem fi_old {L : List Tm} {j i : Nat} {x t : Tm} (hx : L[j]? = some x) (hg : x.gone = false) (h : fstP (L.take j) = some (i, t)) (hlt : ¬ x.tm < t.tm) : fiI (L.take (j + 1)) = fiI (L.take j) := by
  rw [fiI, take_snoc hx, fst_snoc, if_neg (by rw [hg]; decide), fiI, h]; dsimp only; rw [if_neg hlt]
theorem at2 {a b c d e : Value} : At [a, b, c, d, e] 0 [a, b] := by
  intro j v h
  rw [Nat.zero_add]
  cases j with
  | zero => exact h
  | succ j => cases j with
    | zero => exact h
    | succ j => cases h
theorem rlen_ok (L : List Tm) (or_ : Option Nat) (cr : Nat) (tr : List Value) (ho : Own or_ L.length cr 5 (L.flatMap encR) tr) (hl : L.length ≤ 100000) : Spec Try.prog 21 [.agg #[slV or_ L.length cr]] [⟨or_, cl (L.flatMap encR ++ tr) 58⟩] (fun r H' => r = .int .i64 ((live L).length : Int) ∧ H' = [⟨or_, cl (L.flatMap encR ++ tr) 58⟩]) := by
  refine Spec.of (E := [(0, .agg #[slV or_ L.length cr])]) Try.func21 rfl (by kernel_rfl) Try.ntmps21 rfl rfl (fun w => ?_)
  refine WC_seq ?_
  refine WC_region ?_
  refine WL_do rfl rfl rfl (D_box (cs := [_]) rfl rfl rfl) ?_
  rintro _ _ ⟨b1, rfl, rfl⟩
  refine WL_val rfl rfl rfl (R_assign rfl rfl) ?_
  refine WL_nil ?_
  refine WQ_code ?_
  refine WC_seq ?_
  refine WC_region ?_
  refine WL_val rfl rfl rfl (R_assign rfl rfl) ?_
  refine WL_nil ?_
  refine WQ_code ?_
  refine WC_seq ?_
  refine WC_seq ?_
  refine WC_region ?_
  refine WL_val rfl rfl rfl (R_assign rfl rfl) ?_
  refine WL_nil ?_
  refine WQ_code ?_
  refine WC_block ?_
  refine WC_loopF (G := Nat) [3, 4, 5, 6, 7, 8, 9, 10, 11, 12, 13, 14, 15, 16, 17, 18, 19, 20] (fun j => j ≤ L.length) (fun j => [(4, .int .i64 (j : Int)), (3, .int .i64 ((live (L.take j)).length : Int))]) (fun j => []) (fun j => L.length - j) (0) (Nat.zero_le _) (Le.lq (by repeat (first | exact Le.nil | refine Le.cons rfl (by first | rfl | (congr 1; omega)) ?_))) (by repeat (first | exact Pulls.nil | exact Pulls.all | (apply Pulls.cons; (repeat (first | exact Pull.head | apply Pull.tail))) | apply Pulls.skip)) ?_
  rintro j hj
  refine WC_seq ?_
  refine WC_seq ?_
  refine WC_region ?_
  refine WL_val rfl rfl rfl (R_move rfl rfl) ?_
  refine WL_val rfl rfl rfl (R_fieldAddr rfl fa53_0 rfl) ?_
  refine WL_val rfl rfl rfl (R_load rfl sc51 rfl (by repeat (first | exact List.Mem.head _ | refine List.Mem.tail _ ?_)) rfl) ?_
  refine WL_val rfl rfl rfl (R_len rfl Try.underlying51 rfl) ?_
  refine WL_val rfl rfl rfl (R_lss rfl rfl rfl) ?_
  refine WL_nil ?_
  refine WQ_code ?_
  refine WC_dec rfl (fun c1 => ?_) (fun c1 => ?_)
  · refine WC_skip ?_
    refine WQ_code ?_
    refine WC_seq ?_
    refine WC_block ?_
    refine WC_seq ?_
    refine WC_region ?_
    obtain ⟨x, hx⟩ := exE (T := L) (i := j) (by omega)
    have hll : (live (L.take j)).length ≤ (L.take j).length := List.length_filter_le _ _
    rw [List.length_take] at hll
    obtain ⟨b0, hb0⟩ := ho.some_of (by omega)
    rw [hb0]
    refine WL_val rfl rfl rfl (R_fieldAddr rfl fa53_0 rfl) ?_
    refine WL_val rfl rfl rfl (R_load rfl sc51 rfl (by repeat (first | exact List.Mem.head _ | refine List.Mem.tail _ ?_)) rfl) ?_
    refine WL_val rfl rfl rfl (R_move rfl rfl) ?_
    refine WL_val rfl rfl rfl (R_indexAddrN rfl Try.underlying51 Try.sizeOf58 rfl rfl (by omega)) ?_
    refine WL_val rfl rfl rfl (R_fieldAddr rfl fa58_3 rfl) ?_
    refine WL_val rfl rfl rfl (R_load (v := .bool x.gone) rfl sc4 rfl (by repeat (first | exact List.Mem.head _ | refine List.Mem.tail _ ?_)) (fm_get0 encR5 hx (j := 4) (by omega))) ?_
    refine WL_val rfl rfl rfl (R_not rfl rfl) ?_
    refine WL_nil ?_
    refine WQ_code ?_
    refine WC_if rfl (fun c2 => ?_) (fun c2 => ?_)
    · have hgx : x.gone = false := by simpa using c2
      refine WC_region ?_
      refine WL_val rfl rfl rfl (R_move rfl rfl) ?_
      refine WL_val rfl rfl rfl (R_add rfl rfl rfl (by omega)) ?_
      refine WL_val rfl rfl rfl (R_assign rfl rfl) ?_
      refine WL_nil ?_
      refine WQ_code ?_
      refine WC_region ?_
      refine WL_val rfl rfl rfl (R_move rfl rfl) ?_
      refine WL_val rfl rfl rfl (R_add rfl rfl rfl (by omega)) ?_
      refine WL_val rfl rfl rfl (R_assign rfl rfl) ?_
      refine WL_nil ?_
      have hsn : (live (L.take (j + 1))).length = (live (L.take j)).length + 1 := by rw [take_snoc hx, live_snoc]; simp [hgx]
      refine WQ_nextF (j + 1) (by omega) (by omega) (Le.lq (by repeat (first | exact Le.nil | refine Le.cons rfl (by first | rfl | (congr 1; omega)) ?_))) (by repeat (first | exact Pushed.refl | refine Pushed.push rfl ?_)) rfl (by repeat (first | exact Pulls.nil | exact Pulls.all | (apply Pulls.cons; (repeat (first | exact Pull.head | apply Pull.tail))) | apply Pulls.skip))
    · have hgx : x.gone = true := by simpa using c2
      refine WC_skip ?_
      refine WQ_code ?_
      refine WC_region ?_
      refine WL_val rfl rfl rfl (R_move rfl rfl) ?_
      refine WL_val rfl rfl rfl (R_add rfl rfl rfl (by omega)) ?_
      refine WL_val rfl rfl rfl (R_assign rfl rfl) ?_
      refine WL_nil ?_
      have hsn : (live (L.take (j + 1))).length = (live (L.take j)).length + 0 := by rw [take_snoc hx, live_snoc]; simp [hgx]
      refine WQ_nextF (j + 1) (by omega) (by omega) (Le.lq (by repeat (first | exact Le.nil | refine Le.cons rfl (by first | rfl | (congr 1; omega)) ?_))) (by repeat (first | exact Pushed.refl | refine Pushed.push rfl ?_)) rfl (by repeat (first | exact Pulls.nil | exact Pulls.all | (apply Pulls.cons; (repeat (first | exact Pull.head | apply Pull.tail))) | apply Pulls.skip))
  · have ej : j = L.length := by omega
    rw [ej, List.take_length]
    refine WC_exit ?_
    refine WQ_code ?_
    refine WC_seq ?_
    refine WC_region ?_
    refine WL_val rfl rfl rfl (R_move rfl rfl) ?_
    refine WL_val rfl rfl rfl (R_assign rfl rfl) ?_
    refine WL_nil ?_
    refine WQ_code ?_
    refine WC_ret ?_
    refine WQ_ret rfl rfl (.cons (.tmp rfl) .nil) rfl (by
        exact ⟨rfl, rfl⟩) (by repeat (first | exact Pulls.nil | exact Pulls.all | (apply Pulls.cons; (repeat (first | exact Pull.head | apply Pull.tail))) | apply Pulls.skip))
theorem rfirst_ok (L : List Tm) (or_ : Option Nat) (cr : Nat) (tr : List Value) (ho : Own or_ L.length cr 5 (L.flatMap encR) tr) (hl : L.length ≤ 100000) : Spec Try.prog 41 [.agg #[slV or_ L.length cr]] [⟨or_, cl (L.flatMap encR ++ tr) 58⟩] (fun r H' => r = .int .i64 (fiI L) ∧ H' = [⟨or_, cl (L.flatMap encR ++ tr) 58⟩]) := by
  refine Spec.of (E := [(0, .agg #[slV or_ L.length cr])]) Try.func41 rfl (by kernel_rfl) Try.ntmps41 rfl rfl (fun w => ?_)
  refine WC_seq ?_
  refine WC_region ?_
  refine WL_do rfl rfl rfl (D_box (cs := [_]) rfl rfl rfl) ?_
  rintro _ _ ⟨b1, rfl, rfl⟩
  refine WL_val rfl rfl rfl (R_assign rfl rfl) ?_
  refine WL_nil ?_
  refine WQ_code ?_
  refine WC_seq ?_
  refine WC_region ?_
  refine WL_val rfl rfl rfl (R_assign rfl rfl) ?_
  refine WL_nil ?_
  refine WQ_code ?_
  refine WC_seq ?_
  refine WC_seq ?_
  refine WC_region ?_
  refine WL_val rfl rfl rfl (R_assign rfl rfl) ?_
  refine WL_nil ?_
  refine WQ_code ?_
  refine WC_block ?_
  refine WC_loopF (G := Nat) [3, 4, 5, 6, 7, 8, 9, 10, 11, 12, 13, 14, 15, 16, 17, 18, 19, 20, 21, 22, 23, 24, 25, 26, 27, 28, 29, 30, 31, 32, 33, 34, 35, 36, 37, 38] (fun j => j ≤ L.length) (fun j => [(4, .int .i64 (j : Int)), (3, .int .i64 (fiI (L.take j)))]) (fun j => []) (fun j => L.length - j) (0) (Nat.zero_le _) (Le.lq (by repeat (first | exact Le.nil | refine Le.cons rfl (by first | rfl | (congr 1; omega)) ?_))) (by repeat (first | exact Pulls.nil | exact Pulls.all | (apply Pulls.cons; (repeat (first | exact Pull.head | apply Pull.tail))) | apply Pulls.skip)) ?_
  rintro j hj
  refine WC_seq ?_
  refine WC_seq ?_
  refine WC_region ?_
  refine WL_val rfl rfl rfl (R_move rfl rfl) ?_
  refine WL_val rfl rfl rfl (R_fieldAddr rfl fa53_0 rfl) ?_
  refine WL_val rfl rfl rfl (R_load rfl sc51 rfl (by repeat (first | exact List.Mem.head _ | refine List.Mem.tail _ ?_)) rfl) ?_
  refine WL_val rfl rfl rfl (R_len rfl Try.underlying51 rfl) ?_
  refine WL_val rfl rfl rfl (R_lss rfl rfl rfl) ?_
  refine WL_nil ?_
  refine WQ_code ?_
  refine WC_dec rfl (fun c1 => ?_) (fun c1 => ?_)
  · refine WC_skip ?_
    refine WQ_code ?_
    refine WC_seq ?_
    refine WC_block ?_
    refine WC_seq ?_
    refine WC_draw _ [(0, true), (1, true), (2, true), (3, true), (4, true), (5, true), (6, true), (7, true), (8, true), (9, true), (10, true), (11, true), (12, true), (13, true), (14, true), (15, true), (16, true), (17, true), (18, true), (19, true), (20, true), (21, true), (22, true), (23, true), (24, true), (25, true)] followsMixed rfl rfl (by kernel_rfl) .all ?_
    obtain ⟨x, hx⟩ := exE (T := L) (i := j) (by omega)
    obtain ⟨b0, hb0⟩ := ho.some_of (by omega)
    rw [hb0]
    refine WM_val rfl rfl rfl rfl (R_fieldAddr rfl fa53_0 rfl) ?_
    refine WM_val rfl rfl rfl rfl (R_load rfl sc51 rfl (by repeat (first | exact List.Mem.head _ | refine List.Mem.tail _ ?_)) rfl) ?_
    refine WM_val rfl rfl rfl rfl (R_move rfl rfl) ?_
    refine WM_val rfl rfl rfl rfl (R_indexAddrN rfl Try.underlying51 Try.sizeOf58 rfl rfl (by omega)) ?_
    refine WM_val rfl rfl rfl rfl (R_fieldAddr rfl fa58_3 rfl) ?_
    refine WM_val rfl rfl rfl rfl (R_load (v := .bool x.gone) rfl sc4 rfl (by repeat (first | exact List.Mem.head _ | refine List.Mem.tail _ ?_)) (fm_get0 encR5 hx (j := 4) (by omega))) ?_
    refine WM_val rfl rfl rfl rfl (R_not rfl rfl) ?_
    refine WM_val rfl rfl rfl rfl (R_move rfl rfl) ?_
    refine WM_split (s := 19) rfl (fun c2 => ?_) (fun c2 => ?_)
    · have hgx : x.gone = false := by simpa using c2
      refine WM_val rfl rfl rfl rfl (R_move rfl rfl) ?_
      refine WM_val rfl rfl rfl rfl (R_lss rfl rfl rfl) ?_
      refine WM_val rfl rfl rfl rfl (R_move rfl rfl) ?_
      refine WM_splitD (s := 22) rfl (fun c3 => ?_) (fun c3 => ?_)
      · have hf0 : fstP (L.take j) = none := by cases hf : fstP (L.take j) with | none => rfl | some z => obtain ⟨i, y⟩ := z; rw [fiI_some hf] at c3; omega
        refine WM_skip rfl rfl rfl rfl ?_
        refine WM_skip rfl rfl rfl rfl ?_
        refine WM_skip rfl rfl rfl rfl ?_
        refine WM_skip rfl rfl rfl rfl ?_
        refine WM_skip rfl rfl rfl rfl ?_
        refine WM_skip rfl rfl rfl rfl ?_
        refine WM_skip rfl rfl rfl rfl ?_
        refine WM_skip rfl rfl rfl rfl ?_
        refine WM_skip rfl rfl rfl rfl ?_
        refine WM_skip rfl rfl rfl rfl ?_
        refine WM_skip rfl rfl rfl rfl ?_
        refine WM_skip rfl rfl rfl rfl ?_
        refine WM_skip rfl rfl rfl rfl ?_
        refine WM_val rfl rfl rfl rfl (R_pickT rfl rfl rfl) ?_
        refine WM_val rfl rfl rfl rfl (R_pickT rfl rfl rfl) ?_
        refine WM_nil ?_
        refine WQ_code ?_
        refine WC_T rfl ?_
        refine WC_region ?_
        refine WL_val rfl rfl rfl (R_move rfl rfl) ?_
        refine WL_val rfl rfl rfl (R_assign rfl rfl) ?_
        refine WL_nil ?_
        refine WQ_code ?_
        refine WC_region ?_
        refine WL_val rfl rfl rfl (R_move rfl rfl) ?_
        refine WL_val rfl rfl rfl (R_add rfl rfl rfl (by omega)) ?_
        refine WL_val rfl rfl rfl (R_assign rfl rfl) ?_
        refine WL_nil ?_
        have hsn : fiI (L.take (j + 1)) = (j : Int) := fi_new hx hgx (.inl hf0)
        refine WQ_nextF (j + 1) (by omega) (by omega) (Le.lq (by repeat (first | exact Le.nil | refine Le.cons rfl (by first | rfl | (congr 1; omega)) ?_))) (by repeat (first | exact Pushed.refl | refine Pushed.push rfl ?_)) rfl (by repeat (first | exact Pulls.nil | exact Pulls.all | (apply Pulls.cons; (repeat (first | exact Pull.head | apply Pull.tail))) | apply Pulls.skip))
      · have h21 : ¬ fiI (L.take j) < 0 := c3
        obtain ⟨i, y, hfi⟩ : ∃ i y, fstP (L.take j) = some (i, y) := by cases hf : fstP (L.take j) with | none => rw [fiI_none hf] at h21; exact absurd (by decide) h21 | some z => exact ⟨z.1, z.2, rfl⟩
        have hfs := fstP_some hfi
        have hij : i < j := by have := (List.getElem?_eq_some_iff.1 hfs.at_).1; rw [List.length_take] at this; omega
        have hy : L[i]? = some y := by have := hfs.at_; rw [List.getElem?_take_of_lt hij] at this; exact this
        refine WM_val rfl rfl rfl rfl (R_fieldAddr rfl fa53_0 rfl) ?_
        refine WM_val rfl rfl rfl rfl (R_load rfl sc51 rfl (by repeat (first | exact List.Mem.head _ | refine List.Mem.tail _ ?_)) rfl) ?_
        refine WM_val rfl rfl rfl rfl (R_move rfl rfl) ?_
        refine WM_val rfl rfl rfl rfl (R_indexAddrN rfl Try.underlying51 Try.sizeOf58 rfl rfl (by omega)) ?_
        refine WM_val rfl rfl rfl rfl (R_fieldAddr rfl fa58_2 rfl) ?_
        refine WM_val rfl rfl rfl rfl (R_load (v := .int .u64 (x.tm : Int)) rfl sc31 rfl (by repeat (first | exact List.Mem.head _ | refine List.Mem.tail _ ?_)) (fm_get0 encR5 hx (j := 3) (by omega))) ?_
        refine WM_val rfl rfl rfl rfl (R_fieldAddr rfl fa53_0 rfl) ?_
        refine WM_val rfl rfl rfl rfl (R_load rfl sc51 rfl (by repeat (first | exact List.Mem.head _ | refine List.Mem.tail _ ?_)) rfl) ?_
        refine WM_val rfl rfl rfl rfl (R_move rfl rfl) ?_
        refine WM_set (s := 31) (v := .int .i64 (i : Int)) rfl (by rw [fiI_some hfi]) ?_
        refine WM_val rfl rfl rfl rfl (R_indexAddrN rfl Try.underlying51 Try.sizeOf58 rfl rfl (by omega)) ?_
        refine WM_val rfl rfl rfl rfl (R_fieldAddr rfl fa58_2 rfl) ?_
        refine WM_val rfl rfl rfl rfl (R_load (v := .int .u64 (y.tm : Int)) rfl sc31 rfl (by repeat (first | exact List.Mem.head _ | refine List.Mem.tail _ ?_)) (fm_get0 encR5 hy (j := 3) (by omega))) ?_
        refine WM_val rfl rfl rfl rfl (R_lss rfl rfl rfl) ?_
        refine WM_val rfl rfl rfl rfl (R_pickF rfl rfl rfl) ?_
        refine WM_val rfl rfl rfl rfl (R_pickT rfl rfl rfl) ?_
        refine WM_nil ?_
        refine WQ_code ?_
        refine WC_dec rfl (fun c4 => ?_) (fun c4 => ?_)
        · have hlt : x.tm < y.tm := by omega
          refine WC_region ?_
          refine WL_val rfl rfl rfl (R_move rfl rfl) ?_
          refine WL_val rfl rfl rfl (R_assign rfl rfl) ?_
          refine WL_nil ?_
          refine WQ_code ?_
          refine WC_region ?_
          refine WL_val rfl rfl rfl (R_move rfl rfl) ?_
          refine WL_val rfl rfl rfl (R_add rfl rfl rfl (by omega)) ?_
          refine WL_val rfl rfl rfl (R_assign rfl rfl) ?_
          refine WL_nil ?_
          have hsn : fiI (L.take (j + 1)) = (j : Int) := fi_new hx hgx (.inr ⟨_, _, hfi, hlt⟩)
          refine WQ_nextF (j + 1) (by omega) (by omega) (Le.lq (by repeat (first | exact Le.nil | refine Le.cons rfl (by first | rfl | (congr 1; omega)) ?_))) (by repeat (first | exact Pushed.refl | refine Pushed.push rfl ?_)) rfl (by repeat (first | exact Pulls.nil | exact Pulls.all | (apply Pulls.cons; (repeat (first | exact Pull.head | apply Pull.tail))) | apply Pulls.skip))
        · have hlt : ¬ x.tm < y.tm := by omega
          refine WC_skip ?_
          refine WQ_code ?_
          refine WC_region ?_
          refine WL_val rfl rfl rfl (R_move rfl rfl) ?_
          refine WL_val rfl rfl rfl (R_add rfl rfl rfl (by omega)) ?_
          refine WL_val rfl rfl rfl (R_assign rfl rfl) ?_
          refine WL_nil ?_
          have hsn : fiI (L.take (j + 1)) = fiI (L.take j) := fi_old hx hgx hfi hlt
          refine WQ_nextF (j + 1) (by omega) (by omega) (Le.lq (by repeat (first | exact Le.nil | refine Le.cons rfl (by first | rfl | (congr 1; omega)) ?_))) (by repeat (first | exact Pushed.refl | refine Pushed.push rfl ?_)) rfl (by repeat (first | exact Pulls.nil | exact Pulls.all | (apply Pulls.cons; (repeat (first | exact Pull.head | apply Pull.tail))) | apply Pulls.skip))
    · have hgx : x.gone = true := by simpa using c2
      refine WM_skip rfl rfl rfl rfl ?_
      refine WM_skip rfl rfl rfl rfl ?_
      refine WM_skip rfl rfl rfl rfl ?_
      refine WM_skip rfl rfl rfl rfl ?_
      refine WM_skip rfl rfl rfl rfl ?_
      refine WM_skip rfl rfl rfl rfl ?_
      refine WM_skip rfl rfl rfl rfl ?_
      refine WM_skip rfl rfl rfl rfl ?_
      refine WM_skip rfl rfl rfl rfl ?_
      refine WM_skip rfl rfl rfl rfl ?_
      refine WM_skip rfl rfl rfl rfl ?_
      refine WM_skip rfl rfl rfl rfl ?_
      refine WM_skip rfl rfl rfl rfl ?_
      refine WM_skip rfl rfl rfl rfl ?_
      refine WM_skip rfl rfl rfl rfl ?_
      refine WM_skip rfl rfl rfl rfl ?_
      refine WM_skip rfl rfl rfl rfl ?_
      refine WM_val rfl rfl rfl rfl (R_pickF rfl rfl rfl) ?_
      refine WM_nil ?_
      refine WQ_code ?_
      refine WC_F rfl ?_
      refine WC_skip ?_
      refine WQ_code ?_
      refine WC_region ?_
      refine WL_val rfl rfl rfl (R_move rfl rfl) ?_
      refine WL_val rfl rfl rfl (R_add rfl rfl rfl (by omega)) ?_
      refine WL_val rfl rfl rfl (R_assign rfl rfl) ?_
      refine WL_nil ?_
      have hsn : fiI (L.take (j + 1)) = fiI (L.take j) := fi_gone hx hgx
      refine WQ_nextF (j + 1) (by omega) (by omega) (Le.lq (by repeat (first | exact Le.nil | refine Le.cons rfl (by first | rfl | (congr 1; omega)) ?_))) (by repeat (first | exact Pushed.refl | refine Pushed.push rfl ?_)) rfl (by repeat (first | exact Pulls.nil | exact Pulls.all | (apply Pulls.cons; (repeat (first | exact Pull.head | apply Pull.tail))) | apply Pulls.skip))
  · have ej : j = L.length := by omega
    rw [ej, List.take_length]
    refine WC_exit ?_
    refine WQ_code ?_
    refine WC_seq ?_
    refine WC_region ?_
    refine WL_val rfl rfl rfl (R_move rfl rfl) ?_
    refine WL_val rfl rfl rfl (R_assign rfl rfl) ?_
    refine WL_nil ?_
    refine WQ_code ?_
    refine WC_ret ?_
    refine WQ_ret rfl rfl (.cons (.tmp rfl) .nil) rfl (by
        exact ⟨rfl, rfl⟩) (by repeat (first | exact Pulls.nil | exact Pulls.all | (apply Pulls.cons; (repeat (first | exact Pull.head | apply Pull.tail))) | apply Pulls.skip))
theorem rat_none (L : List Tm) (or_ : Option Nat) (cr : Nat) (tr : List Value) (ho : Own or_ L.length cr 5 (L.flatMap encR) tr) (hl : L.length ≤ 100000) (N G : Int) (hn : ¬ ∃ t ∈ L, t.gone = false ∧ (t.n : Int) = N ∧ (t.gen : Int) = G) : Spec Try.prog 42 [.agg #[slV or_ L.length cr], .agg #[.int .i64 N, .int .i64 G]] [⟨or_, cl (L.flatMap encR ++ tr) 58⟩] (fun r H' => r = .int .i64 (-1) ∧ H' = [⟨or_, cl (L.flatMap encR ++ tr) 58⟩]) := by
  refine Spec.of (E := [(0, .agg #[slV or_ L.length cr]), (1, .agg #[.int .i64 N, .int .i64 G])]) Try.func42 rfl (by kernel_rfl) Try.ntmps42 rfl rfl (fun w => ?_)
  refine WC_seq ?_
  refine WC_region ?_
  refine WL_do rfl rfl rfl (D_box (cs := [_]) rfl rfl rfl) ?_
  rintro _ _ ⟨b1, rfl, rfl⟩
  refine WL_do rfl rfl rfl (D_box (cs := [_, _]) rfl rfl rfl) ?_
  rintro _ _ ⟨b2, rfl, rfl⟩
  refine WL_val rfl rfl rfl (R_assign rfl rfl) ?_
  refine WL_nil ?_
  refine WQ_code ?_
  refine WC_seq ?_
  refine WC_seq ?_
  refine WC_region ?_
  refine WL_val rfl rfl rfl (R_assign rfl rfl) ?_
  refine WL_nil ?_
  refine WQ_code ?_
  refine WC_block ?_
  refine WC_loopF (G := Nat) [4, 5, 6, 7, 8, 9, 10, 11, 12, 13, 14, 15, 16, 17, 18, 19, 20, 21, 22, 23, 24, 25, 26, 27, 28, 29, 30] (fun j => j ≤ L.length) (fun j => [(5, .int .i64 (j : Int))]) (fun j => []) (fun j => L.length - j) (0) (Nat.zero_le _) (Le.lq (by repeat (first | exact Le.nil | refine Le.cons rfl (by first | rfl | (congr 1; omega)) ?_))) (by repeat (first | exact Pulls.nil | exact Pulls.all | (apply Pulls.cons; (repeat (first | exact Pull.head | apply Pull.tail))) | apply Pulls.skip)) ?_
  rintro j hj
  refine WC_seq ?_
  refine WC_seq ?_
  refine WC_region ?_
  refine WL_val rfl rfl rfl (R_move rfl rfl) ?_
  refine WL_val rfl rfl rfl (R_fieldAddr rfl fa53_0 rfl) ?_
  refine WL_val rfl rfl rfl (R_load rfl sc51 rfl (by repeat (first | exact List.Mem.head _ | refine List.Mem.tail _ ?_)) rfl) ?_
  refine WL_val rfl rfl rfl (R_len rfl Try.underlying51 rfl) ?_
  refine WL_val rfl rfl rfl (R_lss rfl rfl rfl) ?_
  refine WL_nil ?_
  refine WQ_code ?_
  refine WC_dec rfl (fun c1 => ?_) (fun c1 => ?_)
  · refine WC_skip ?_
    refine WQ_code ?_
    refine WC_seq ?_
    refine WC_block ?_
    refine WC_seq ?_
    refine WC_draw _ [(0, true), (1, true), (2, true), (3, true), (4, true), (5, true), (6, true), (7, true), (8, true), (9, true), (10, true), (11, true), (12, true), (13, true), (14, true), (15, true), (16, true)] followsMixed rfl rfl (by kernel_rfl) .all ?_
    obtain ⟨x, hx⟩ := exE (T := L) (i := j) (by omega)
    obtain ⟨b0, hb0⟩ := ho.some_of (by omega)
    rw [hb0]
    refine WM_val rfl rfl rfl rfl (R_fieldAddr rfl fa53_0 rfl) ?_
    refine WM_val rfl rfl rfl rfl (R_load rfl sc51 rfl (by repeat (first | exact List.Mem.head _ | refine List.Mem.tail _ ?_)) rfl) ?_
    refine WM_val rfl rfl rfl rfl (R_move rfl rfl) ?_
    refine WM_val rfl rfl rfl rfl (R_indexAddrN rfl Try.underlying51 Try.sizeOf58 rfl rfl (by omega)) ?_
    refine WM_val rfl rfl rfl rfl (R_fieldAddr rfl fa58_0 rfl) ?_
    refine WM_val rfl rfl rfl rfl (R_loadA (vs := [.int .i64 (x.n : Int), .int .i64 (x.gen : Int)]) rfl ag26 rfl (by repeat (first | exact List.Mem.head _ | refine List.Mem.tail _ ?_)) rfl (fm_at0 encR5 hx (j := 0) (vs := [.int .i64 (x.n : Int), .int .i64 (x.gen : Int)]) at2 (Nat.le_of_ble_eq_true rfl))) ?_
    refine WM_val rfl rfl rfl rfl (R_loadA (vs := [_, _]) rfl ag26 rfl (by repeat (first | exact List.Mem.head _ | refine List.Mem.tail _ ?_)) rfl (by repeat (first | exact At.nil | refine At.cons ?_ | refine At.succ ?_))) ?_
    refine WM_val rfl rfl rfl rfl (R_seq26 rfl rfl rfl rfl) ?_
    refine WM_val rfl rfl rfl rfl (R_move rfl rfl) ?_
    refine WM_splitD (s := 21) rfl (fun c2 => ?_) (fun c2 => ?_)
    · have hid : (x.n : Int) = N ∧ (x.gen : Int) = G := c2
      refine WM_val rfl rfl rfl rfl (R_fieldAddr rfl fa53_0 rfl) ?_
      refine WM_val rfl rfl rfl rfl (R_load rfl sc51 rfl (by repeat (first | exact List.Mem.head _ | refine List.Mem.tail _ ?_)) rfl) ?_
      refine WM_val rfl rfl rfl rfl (R_move rfl rfl) ?_
      refine WM_val rfl rfl rfl rfl (R_indexAddrN rfl Try.underlying51 Try.sizeOf58 rfl rfl (by omega)) ?_
      refine WM_val rfl rfl rfl rfl (R_fieldAddr rfl fa58_3 rfl) ?_
      refine WM_val rfl rfl rfl rfl (R_load (v := .bool x.gone) rfl sc4 rfl (by repeat (first | exact List.Mem.head _ | refine List.Mem.tail _ ?_)) (fm_get0 encR5 hx (j := 4) (by omega))) ?_
      refine WM_val rfl rfl rfl rfl (R_not rfl rfl) ?_
      refine WM_val rfl rfl rfl rfl (R_pickT rfl rfl rfl) ?_
      refine WM_nil ?_
      refine WQ_code ?_
      refine WC_if rfl (fun c3 => ?_) (fun c3 => ?_)
      · exact absurd ⟨x, List.mem_of_getElem? hx, by simpa using c3, hid.1, hid.2⟩ hn
      · refine WC_skip ?_
        refine WQ_code ?_
        refine WC_region ?_
        refine WL_val rfl rfl rfl (R_move rfl rfl) ?_
        refine WL_val rfl rfl rfl (R_add rfl rfl rfl (by omega)) ?_
        refine WL_val rfl rfl rfl (R_assign rfl rfl) ?_
        refine WL_nil ?_
        refine WQ_nextF (j + 1) (by omega) (by omega) (Le.lq (by repeat (first | exact Le.nil | refine Le.cons rfl (by first | rfl | (congr 1; omega)) ?_))) (by repeat (first | exact Pushed.refl | refine Pushed.push rfl ?_)) rfl (by repeat (first | exact Pulls.nil | exact Pulls.all | (apply Pulls.cons; (repeat (first | exact Pull.head | apply Pull.tail))) | apply Pulls.skip))
    · have hid : ¬ ((x.n : Int) = N ∧ (x.gen : Int) = G) := c2
      refine WM_skip rfl rfl rfl rfl ?_
      refine WM_skip rfl rfl rfl rfl ?_
      refine WM_skip rfl rfl rfl rfl ?_
      refine WM_skip rfl rfl rfl rfl ?_
      refine WM_skip rfl rfl rfl rfl ?_
      refine WM_skip rfl rfl rfl rfl ?_
      refine WM_skip rfl rfl rfl rfl ?_
      refine WM_val rfl rfl rfl rfl (R_pickF rfl rfl rfl) ?_
      refine WM_nil ?_
      refine WQ_code ?_
      refine WC_F rfl ?_
      refine WC_skip ?_
      refine WQ_code ?_
      refine WC_region ?_
      refine WL_val rfl rfl rfl (R_move rfl rfl) ?_
      refine WL_val rfl rfl rfl (R_add rfl rfl rfl (by omega)) ?_
      refine WL_val rfl rfl rfl (R_assign rfl rfl) ?_
      refine WL_nil ?_
      refine WQ_nextF (j + 1) (by omega) (by omega) (Le.lq (by repeat (first | exact Le.nil | refine Le.cons rfl (by first | rfl | (congr 1; omega)) ?_))) (by repeat (first | exact Pushed.refl | refine Pushed.push rfl ?_)) rfl (by repeat (first | exact Pulls.nil | exact Pulls.all | (apply Pulls.cons; (repeat (first | exact Pull.head | apply Pull.tail))) | apply Pulls.skip))
  · refine WC_exit ?_
    refine WQ_code ?_
    refine WC_seq ?_
    refine WC_region ?_
    refine WL_val rfl rfl rfl (R_assign rfl rfl) ?_
    refine WL_nil ?_
    refine WQ_code ?_
    refine WC_ret ?_
    refine WQ_ret rfl rfl (.cons (.tmp rfl) .nil) rfl (by
        exact ⟨rfl, rfl⟩) (by repeat (first | exact Pulls.nil | exact Pulls.all | (apply Pulls.cons; (repeat (first | exact Pull.head | apply Pull.tail))) | apply Pulls.skip))
theorem rat_some (L : List Tm) (or_ : Option Nat) (cr : Nat) (tr : List Value) (ho : Own or_ L.length cr 5 (L.flatMap encR) tr) (hl : L.length ≤ 100000) (gv : List Nat) (n : Nat) (r : TRel L gv n) (i : Nat) (t : Tm) (hi : L[i]? = some t) (hg : t.gone = false) : Spec Try.prog 42 [.agg #[slV or_ L.length cr], .agg #[.int .i64 (t.n : Int), .int .i64 (t.gen : Int)]] [⟨or_, cl (L.flatMap encR ++ tr) 58⟩] (fun r H' => r = .int .i64 (i : Int) ∧ H' = [⟨or_, cl (L.flatMap encR ++ tr) 58⟩]) := by
  have hil := (List.getElem?_eq_some_iff.1 hi).1
  obtain ⟨b0, hb0⟩ := ho.some_of (by omega)
  subst hb0
  refine Spec.of (E := [(0, .agg #[slV (some b0) L.length cr]), (1, .agg #[.int .i64 (t.n : Int), .int .i64 (t.gen : Int)])]) Try.func42 rfl (by kernel_rfl) Try.ntmps42 rfl rfl (fun w => ?_)
  refine WC_seq ?_
  refine WC_region ?_
  refine WL_do rfl rfl rfl (D_box (cs := [_]) rfl rfl rfl) ?_
  rintro _ _ ⟨b1, rfl, rfl⟩
  refine WL_do rfl rfl rfl (D_box (cs := [_, _]) rfl rfl rfl) ?_
  rintro _ _ ⟨b2, rfl, rfl⟩
  refine WL_val rfl rfl rfl (R_assign rfl rfl) ?_
  refine WL_nil ?_
  refine WQ_code ?_
  refine WC_seq ?_
  refine WC_seq ?_
  refine WC_region ?_
  refine WL_val rfl rfl rfl (R_assign rfl rfl) ?_
  refine WL_nil ?_
  refine WQ_code ?_
  refine WC_block ?_
  refine WC_loopF (G := Nat) [4, 5, 6, 7, 8, 9, 10, 11, 12, 13, 14, 15, 16, 17, 18, 19, 20, 21, 22, 23, 24, 25, 26, 27, 28, 29, 30] (fun j => j ≤ i) (fun j => [(5, .int .i64 (j : Int))]) (fun j => []) (fun j => i - j) (0) (Nat.zero_le _) (Le.lq (by repeat (first | exact Le.nil | refine Le.cons rfl (by first | rfl | (congr 1; omega)) ?_))) (by repeat (first | exact Pulls.nil | exact Pulls.all | (apply Pulls.cons; (repeat (first | exact Pull.head | apply Pull.tail))) | apply Pulls.skip)) ?_
  rintro j hj
  refine WC_seq ?_
  refine WC_seq ?_
  refine WC_region ?_
  refine WL_val rfl rfl rfl (R_move rfl rfl) ?_
  refine WL_val rfl rfl rfl (R_fieldAddr rfl fa53_0 rfl) ?_
  refine WL_val rfl rfl rfl (R_load rfl sc51 rfl (by repeat (first | exact List.Mem.head _ | refine List.Mem.tail _ ?_)) rfl) ?_
  refine WL_val rfl rfl rfl (R_len rfl Try.underlying51 rfl) ?_
  refine WL_val rfl rfl rfl (R_lss rfl rfl rfl) ?_
  refine WL_nil ?_
  refine WQ_code ?_
  refine WC_dT rfl (by omega) ?_
  refine WC_skip ?_
  refine WQ_code ?_
  refine WC_seq ?_
  refine WC_block ?_
  refine WC_seq ?_
  refine WC_draw _ [(0, true), (1, true), (2, true), (3, true), (4, true), (5, true), (6, true), (7, true), (8, true), (9, true), (10, true), (11, true), (12, true), (13, true), (14, true), (15, true), (16, true)] followsMixed rfl rfl (by kernel_rfl) .all ?_
  obtain ⟨x, hx⟩ := exE (T := L) (i := j) (by omega)
  refine WM_val rfl rfl rfl rfl (R_fieldAddr rfl fa53_0 rfl) ?_
  refine WM_val rfl rfl rfl rfl (R_load rfl sc51 rfl (by repeat (first | exact List.Mem.head _ | refine List.Mem.tail _ ?_)) rfl) ?_
  refine WM_val rfl rfl rfl rfl (R_move rfl rfl) ?_
  refine WM_val rfl rfl rfl rfl (R_indexAddrN rfl Try.underlying51 Try.sizeOf58 rfl rfl (by omega)) ?_
  refine WM_val rfl rfl rfl rfl (R_fieldAddr rfl fa58_0 rfl) ?_
  refine WM_val rfl rfl rfl rfl (R_loadA (vs := [.int .i64 (x.n : Int), .int .i64 (x.gen : Int)]) rfl ag26 rfl (by repeat (first | exact List.Mem.head _ | refine List.Mem.tail _ ?_)) rfl (fm_at0 encR5 hx (j := 0) (vs := [.int .i64 (x.n : Int), .int .i64 (x.gen : Int)]) at2 (Nat.le_of_ble_eq_true rfl))) ?_
  refine WM_val rfl rfl rfl rfl (R_loadA (vs := [_, _]) rfl ag26 rfl (by repeat (first | exact List.Mem.head _ | refine List.Mem.tail _ ?_)) rfl (by repeat (first | exact At.nil | refine At.cons ?_ | refine At.succ ?_))) ?_
  refine WM_val rfl rfl rfl rfl (R_seq26 rfl rfl rfl rfl) ?_
  refine WM_val rfl rfl rfl rfl (R_move rfl rfl) ?_
  refine WM_splitD (s := 21) rfl (fun c1 => ?_) (fun c1 => ?_)
  · have hid : (x.n : Int) = (t.n : Int) ∧ (x.gen : Int) = (t.gen : Int) := c1
    refine WM_val rfl rfl rfl rfl (R_fieldAddr rfl fa53_0 rfl) ?_
    refine WM_val rfl rfl rfl rfl (R_load rfl sc51 rfl (by repeat (first | exact List.Mem.head _ | refine List.Mem.tail _ ?_)) rfl) ?_
    refine WM_val rfl rfl rfl rfl (R_move rfl rfl) ?_
    refine WM_val rfl rfl rfl rfl (R_indexAddrN rfl Try.underlying51 Try.sizeOf58 rfl rfl (by omega)) ?_
    refine WM_val rfl rfl rfl rfl (R_fieldAddr rfl fa58_3 rfl) ?_
    refine WM_val rfl rfl rfl rfl (R_load (v := .bool x.gone) rfl sc4 rfl (by repeat (first | exact List.Mem.head _ | refine List.Mem.tail _ ?_)) (fm_get0 encR5 hx (j := 4) (by omega))) ?_
    refine WM_val rfl rfl rfl rfl (R_not rfl rfl) ?_
    refine WM_val rfl rfl rfl rfl (R_pickT rfl rfl rfl) ?_
    refine WM_nil ?_
    refine WQ_code ?_
    refine WC_if rfl (fun c2 => ?_) (fun c2 => ?_)
    · have hgx : x.gone = false := by simpa using c2
      obtain rfl := r.liveN hx hi hgx hg (by omega)
      refine WC_seq ?_
      refine WC_region ?_
      refine WL_val rfl rfl rfl (R_move rfl rfl) ?_
      refine WL_val rfl rfl rfl (R_assign rfl rfl) ?_
      refine WL_nil ?_
      refine WQ_code ?_
      refine WC_ret ?_
      refine WQ_ret rfl rfl (.cons (.tmp rfl) .nil) rfl (by
          exact ⟨rfl, rfl⟩) (by repeat (first | exact Pulls.nil | exact Pulls.all | (apply Pulls.cons; (repeat (first | exact Pull.head | apply Pull.tail))) | apply Pulls.skip))
    · have hgx : x.gone = true := by simpa using c2
      refine WC_skip ?_
      refine WQ_code ?_
      refine WC_region ?_
      refine WL_val rfl rfl rfl (R_move rfl rfl) ?_
      refine WL_val rfl rfl rfl (R_add rfl rfl rfl (by omega)) ?_
      refine WL_val rfl rfl rfl (R_assign rfl rfl) ?_
      refine WL_nil ?_
      have hji : j ≠ i := by rintro rfl; rw [hi] at hx; obtain rfl := Option.some.inj hx; rw [hg] at hgx; cases hgx
      refine WQ_nextF (j + 1) (by omega) (by omega) (Le.lq (by repeat (first | exact Le.nil | refine Le.cons rfl (by first | rfl | (congr 1; omega)) ?_))) (by repeat (first | exact Pushed.refl | refine Pushed.push rfl ?_)) rfl (by repeat (first | exact Pulls.nil | exact Pulls.all | (apply Pulls.cons; (repeat (first | exact Pull.head | apply Pull.tail))) | apply Pulls.skip))
  · have hid : ¬ ((x.n : Int) = (t.n : Int) ∧ (x.gen : Int) = (t.gen : Int)) := c1
    refine WM_skip rfl rfl rfl rfl ?_
    refine WM_skip rfl rfl rfl rfl ?_
    refine WM_skip rfl rfl rfl rfl ?_
    refine WM_skip rfl rfl rfl rfl ?_
    refine WM_skip rfl rfl rfl rfl ?_
    refine WM_skip rfl rfl rfl rfl ?_
    refine WM_skip rfl rfl rfl rfl ?_
    refine WM_val rfl rfl rfl rfl (R_pickF rfl rfl rfl) ?_
    refine WM_nil ?_
    refine WQ_code ?_
    refine WC_F rfl ?_
    refine WC_skip ?_
    refine WQ_code ?_
    refine WC_region ?_
    refine WL_val rfl rfl rfl (R_move rfl rfl) ?_
    refine WL_val rfl rfl rfl (R_add rfl rfl rfl (by omega)) ?_
    refine WL_val rfl rfl rfl (R_assign rfl rfl) ?_
    refine WL_nil ?_
    have hji : j ≠ i := by rintro rfl; rw [hi] at hx; obtain rfl := Option.some.inj hx; exact hid ⟨rfl, rfl⟩
    refine WQ_nextF (j + 1) (by omega) (by omega) (Le.lq (by repeat (first | exact Le.nil | refine Le.cons rfl (by first | rfl | (congr 1; omega)) ?_))) (by repeat (first | exact Pushed.refl | refine Pushed.push rfl ?_)) rfl (by repeat (first | exact Pulls.nil | exact Pulls.all | (apply Pulls.cons; (repeat (first | exact Pull.head | apply Pull.tail))) | apply Pulls.skip))
def isL (L : List Tm) (k : Nat) : Bool := L.any (fun t => !t.gone && decide (t.n = k))
theorem isL_snoc (A : List Tm) (x : Tm) (k : Nat) : isL (A ++ [x]) k = (isL A k || (!x.gone && decide (x.n = k))) := by rw [isL, isL, List.any_append]; simp
theorem isL_iff {L : List Tm} {k : Nat} : isL L k = true ↔ ∃ w ∈ wl L, w.h = k := by
  rw [isL, List.any_eq_true]
  constructor
  · rintro ⟨t, ht, h⟩
    simp only [Bool.and_eq_true, Bool.not_eq_true', decide_eq_true_eq] at h
    exact ⟨toW t, mem_wl.2 ⟨t, ht, h.1, rfl⟩, h.2⟩
  · rintro ⟨w, hw, e⟩
    obtain ⟨t, ht, hg, rfl⟩ := mem_wl.1 hw
    exact ⟨t, ht, by simp only [hg, Bool.not_false, Bool.true_and]; exact decide_eq_true e⟩
theorem rmany_ok (L : List Tm) (or_ : Option Nat) (cr : Nat) (tr : List Value) (ho : Own or_ L.length cr 5 (L.flatMap encR) tr) (hl : L.length ≤ 100000) (k : Nat) : Spec Try.prog 52 [.agg #[slV or_ L.length cr], .int .i64 (k : Int)] [⟨or_, cl (L.flatMap encR ++ tr) 58⟩] (fun r H' => r = .tuple #[.int .i64 (cnt L k : Int), .bool (isL L k)] ∧ H' = [⟨or_, cl (L.flatMap encR ++ tr) 58⟩]) := by
  refine Spec.of (E := [(0, .agg #[slV or_ L.length cr]), (1, .int .i64 (k : Int))]) Try.func52 rfl (by kernel_rfl) Try.ntmps52 rfl rfl (fun w => ?_)
  refine WC_seq ?_
  refine WC_region ?_
  refine WL_do rfl rfl rfl (D_box (cs := [_]) rfl rfl rfl) ?_
  rintro _ _ ⟨b1, rfl, rfl⟩
  refine WL_val rfl rfl rfl (R_assign rfl rfl) ?_
  refine WL_val rfl rfl rfl (R_assign rfl rfl) ?_
  refine WL_nil ?_
  refine WQ_code ?_
  refine WC_seq ?_
  refine WC_region ?_
  refine WL_val rfl rfl rfl (R_assign rfl rfl) ?_
  refine WL_val rfl rfl rfl (R_assign rfl rfl) ?_
  refine WL_nil ?_
  refine WQ_code ?_
  refine WC_seq ?_
  refine WC_seq ?_
  refine WC_region ?_
  refine WL_val rfl rfl rfl (R_assign rfl rfl) ?_
  refine WL_nil ?_
  refine WQ_code ?_
  refine WC_block ?_
  refine WC_loopF (G := Nat) [6, 7, 8, 9, 10, 11, 12, 13, 14, 15, 16, 17, 18, 19, 20, 21, 22, 23, 24, 25, 26, 27, 28, 29, 30, 31, 32, 33, 34, 35, 36] (fun j => j ≤ L.length) (fun j => [(8, .int .i64 (j : Int)), (6, .int .i64 (cnt (L.take j) k : Int)), (7, .bool (isL (L.take j) k))]) (fun j => []) (fun j => L.length - j) (0) (Nat.zero_le _) (Le.lq (by repeat (first | exact Le.nil | refine Le.cons rfl (by first | rfl | (congr 1; omega)) ?_))) (by repeat (first | exact Pulls.nil | exact Pulls.all | (apply Pulls.cons; (repeat (first | exact Pull.head | apply Pull.tail))) | apply Pulls.skip)) ?_
  rintro j hj
  refine WC_seq ?_
  refine WC_seq ?_
  refine WC_region ?_
  refine WL_val rfl rfl rfl (R_move rfl rfl) ?_
  refine WL_val rfl rfl rfl (R_fieldAddr rfl fa53_0 rfl) ?_
  refine WL_val rfl rfl rfl (R_load rfl sc51 rfl (by repeat (first | exact List.Mem.head _ | refine List.Mem.tail _ ?_)) rfl) ?_
  refine WL_val rfl rfl rfl (R_len rfl Try.underlying51 rfl) ?_
  refine WL_val rfl rfl rfl (R_lss rfl rfl rfl) ?_
  refine WL_nil ?_
  refine WQ_code ?_
  refine WC_dec rfl (fun c1 => ?_) (fun c1 => ?_)
  · refine WC_skip ?_
    refine WQ_code ?_
    refine WC_seq ?_
    refine WC_block ?_
    refine WC_seq ?_
    refine WC_region ?_
    obtain ⟨x, hx⟩ := exE (T := L) (i := j) (by omega)
    have hcl := cnt_le (L.take j) k
    rw [List.length_take] at hcl
    obtain ⟨b0, hb0⟩ := ho.some_of (by omega)
    rw [hb0]
    refine WL_val rfl rfl rfl (R_fieldAddr rfl fa53_0 rfl) ?_
    refine WL_val rfl rfl rfl (R_load rfl sc51 rfl (by repeat (first | exact List.Mem.head _ | refine List.Mem.tail _ ?_)) rfl) ?_
    refine WL_val rfl rfl rfl (R_move rfl rfl) ?_
    refine WL_val rfl rfl rfl (R_indexAddrN rfl Try.underlying51 Try.sizeOf58 rfl rfl (by omega)) ?_
    refine WL_val rfl rfl rfl (R_fieldAddr rfl fa58_0 rfl) ?_
    refine WL_val rfl rfl rfl (R_fieldAddr rfl fa26_0 rfl) ?_
    refine WL_val rfl rfl rfl (R_load (v := .int .i64 (x.n : Int)) rfl sc3 rfl (by repeat (first | exact List.Mem.head _ | refine List.Mem.tail _ ?_)) (fm_get0 encR5 hx (j := 0) (by omega))) ?_
    refine WL_val rfl rfl rfl (R_move rfl rfl) ?_
    refine WL_val rfl rfl rfl (R_eql rfl rfl rfl) ?_
    refine WL_nil ?_
    refine WQ_code ?_
    refine WC_dec rfl (fun c2 => ?_) (fun c2 => ?_)
    · have hnk : x.n = k := by omega
      refine WC_seq ?_
      refine WC_region ?_
      refine WL_val rfl rfl rfl (R_move rfl rfl) ?_
      refine WL_val rfl rfl rfl (R_add rfl rfl rfl (by omega)) ?_
      refine WL_val rfl rfl rfl (R_assign rfl rfl) ?_
      refine WL_nil ?_
      refine WQ_code ?_
      refine WC_region ?_
      refine WL_val rfl rfl rfl (R_move rfl rfl) ?_
      refine WL_val rfl rfl rfl (R_move rfl rfl) ?_
      refine WL_split (s := 28) rfl (fun c3 => ?_) (fun c3 => ?_)
      · have hil : isL (L.take j) k = true := c3
        refine WL_skip rfl rfl rfl ?_
        refine WL_skip rfl rfl rfl ?_
        refine WL_skip rfl rfl rfl ?_
        refine WL_skip rfl rfl rfl ?_
        refine WL_skip rfl rfl rfl ?_
        refine WL_skip rfl rfl rfl ?_
        refine WL_skip rfl rfl rfl ?_
        refine WL_val rfl rfl rfl (R_pickT rfl rfl rfl) ?_
        refine WL_val rfl rfl rfl (R_assign rfl rfl) ?_
        refine WL_nil ?_
        refine WQ_code ?_
        refine WC_region ?_
        have hsn : cnt (L.take (j + 1)) k = cnt (L.take j) k + 1 ∧ isL (L.take (j + 1)) k = true := by rw [take_snoc hx, cnt_snoc, isL_snoc]; simp [hnk, hil]
        have hsn1 := hsn.1
        refine WL_set (s := 7) (v := .bool (isL (L.take (j + 1)) k)) rfl (by rw [hsn.2]) ?_
        refine WL_val rfl rfl rfl (R_move rfl rfl) ?_
        refine WL_val rfl rfl rfl (R_add rfl rfl rfl (by omega)) ?_
        refine WL_val rfl rfl rfl (R_assign rfl rfl) ?_
        refine WL_nil ?_
        refine WQ_nextF (j + 1) (by omega) (by omega) (Le.lq (by repeat (first | exact Le.nil | refine Le.cons rfl (by first | rfl | (congr 1; omega)) ?_))) (by repeat (first | exact Pushed.refl | refine Pushed.push rfl ?_)) rfl (by repeat (first | exact Pulls.nil | exact Pulls.all | (apply Pulls.cons; (repeat (first | exact Pull.head | apply Pull.tail))) | apply Pulls.skip))
      · have hil : isL (L.take j) k = false := by simpa using c3
        refine WL_val rfl rfl rfl (R_fieldAddr rfl fa53_0 rfl) ?_
        refine WL_val rfl rfl rfl (R_load rfl sc51 rfl (by repeat (first | exact List.Mem.head _ | refine List.Mem.tail _ ?_)) rfl) ?_
        refine WL_val rfl rfl rfl (R_move rfl rfl) ?_
        refine WL_val rfl rfl rfl (R_indexAddrN rfl Try.underlying51 Try.sizeOf58 rfl rfl (by omega)) ?_
        refine WL_val rfl rfl rfl (R_fieldAddr rfl fa58_3 rfl) ?_
        refine WL_val rfl rfl rfl (R_load (v := .bool x.gone) rfl sc4 rfl (by repeat (first | exact List.Mem.head _ | refine List.Mem.tail _ ?_)) (fm_get0 encR5 hx (j := 4) (by omega))) ?_
        refine WL_val rfl rfl rfl (R_not rfl rfl) ?_
        refine WL_val rfl rfl rfl (R_pickF rfl rfl rfl) ?_
        refine WL_val rfl rfl rfl (R_assign rfl rfl) ?_
        refine WL_nil ?_
        refine WQ_code ?_
        refine WC_region ?_
        have hsn : cnt (L.take (j + 1)) k = cnt (L.take j) k + 1 ∧ isL (L.take (j + 1)) k = !x.gone := by rw [take_snoc hx, cnt_snoc, isL_snoc]; simp [hnk, hil]
        have hsn1 := hsn.1
        refine WL_set (s := 7) (v := .bool (isL (L.take (j + 1)) k)) rfl (by rw [hsn.2]) ?_
        refine WL_val rfl rfl rfl (R_move rfl rfl) ?_
        refine WL_val rfl rfl rfl (R_add rfl rfl rfl (by omega)) ?_
        refine WL_val rfl rfl rfl (R_assign rfl rfl) ?_
        refine WL_nil ?_
        refine WQ_nextF (j + 1) (by omega) (by omega) (Le.lq (by repeat (first | exact Le.nil | refine Le.cons rfl (by first | rfl | (congr 1; omega)) ?_))) (by repeat (first | exact Pushed.refl | refine Pushed.push rfl ?_)) rfl (by repeat (first | exact Pulls.nil | exact Pulls.all | (apply Pulls.cons; (repeat (first | exact Pull.head | apply Pull.tail))) | apply Pulls.skip))
    · have hnk : ¬ x.n = k := by omega
      refine WC_skip ?_
      refine WQ_code ?_
      refine WC_region ?_
      have hsn : cnt (L.take (j + 1)) k = cnt (L.take j) k + 0 ∧ isL (L.take (j + 1)) k = isL (L.take j) k := by rw [take_snoc hx, cnt_snoc, isL_snoc]; simp [hnk]
      have hsn1 := hsn.1
      refine WL_set (s := 7) (v := .bool (isL (L.take (j + 1)) k)) rfl (by rw [hsn.2]) ?_
      refine WL_val rfl rfl rfl (R_move rfl rfl) ?_
      refine WL_val rfl rfl rfl (R_add rfl rfl rfl (by omega)) ?_
      refine WL_val rfl rfl rfl (R_assign rfl rfl) ?_
      refine WL_nil ?_
      refine WQ_nextF (j + 1) (by omega) (by omega) (Le.lq (by repeat (first | exact Le.nil | refine Le.cons rfl (by first | rfl | (congr 1; omega)) ?_))) (by repeat (first | exact Pushed.refl | refine Pushed.push rfl ?_)) rfl (by repeat (first | exact Pulls.nil | exact Pulls.all | (apply Pulls.cons; (repeat (first | exact Pull.head | apply Pull.tail))) | apply Pulls.skip))
  · have ej : j = L.length := by omega
    rw [ej, List.take_length]
    refine WC_exit ?_
    refine WQ_code ?_
    refine WC_seq ?_
    refine WC_region ?_
    refine WL_val rfl rfl rfl (R_move rfl rfl) ?_
    refine WL_val rfl rfl rfl (R_move rfl rfl) ?_
    refine WL_val rfl rfl rfl (R_assign rfl rfl) ?_
    refine WL_val rfl rfl rfl (R_assign rfl rfl) ?_
    refine WL_nil ?_
    refine WQ_code ?_
    refine WC_ret ?_
    refine WQ_ret rfl rfl (.cons (.tmp rfl) (.cons (.tmp rfl) .nil)) rfl (by
        exact ⟨rfl, rfl⟩) (by repeat (first | exact Pulls.nil | exact Pulls.all | (apply Pulls.cons; (repeat (first | exact Pull.head | apply Pull.tail))) | apply Pulls.skip))
theorem rcopy_ok (L : List Tm) (or_ : Option Nat) (cr : Nat) (tr : List Value) (ho : Own or_ L.length cr 5 (L.flatMap encR) tr) (hl : L.length ≤ 100000) : Spec Try.prog 53 [.agg #[slV or_ L.length cr]] [⟨or_, cl (L.flatMap encR ++ tr) 58⟩] (fun r H' => ∃ o2 c2 t2, r = .agg #[slV o2 L.length c2] ∧ Own o2 L.length c2 5 (L.flatMap encR) t2 ∧ H' = [⟨o2, cl (L.flatMap encR ++ t2) 58⟩, ⟨or_, cl (L.flatMap encR ++ tr) 58⟩]) := by
  refine Spec.of (E := [(0, .agg #[slV or_ L.length cr])]) Try.func53 rfl (by kernel_rfl) Try.ntmps53 rfl rfl (fun w => ?_)
  refine WC_seq ?_
  refine WC_region ?_
  refine WL_do rfl rfl rfl (D_box (cs := [_]) rfl rfl rfl) ?_
  rintro _ _ ⟨b1, rfl, rfl⟩
  refine WL_do rfl rfl rfl (D_alloc rfl zv53) ?_
  rintro _ _ ⟨b2, rfl, rfl⟩
  refine WL_nil ?_
  refine WQ_code ?_
  refine WC_seq ?_
  refine WC_region ?_
  refine WL_val rfl rfl rfl (R_fieldAddr rfl fa53_0 rfl) ?_
  refine WL_val rfl rfl rfl (R_load rfl sc51 rfl (by repeat (first | exact List.Mem.head _ | refine List.Mem.tail _ ?_)) rfl) ?_
  refine WL_none 58 ?_
  refine WL_do rfl rfl rfl (D_appendO rfl si51 rfl (Own.empty 5) (by repeat (first | exact Pull.head | apply Pull.tail)) rfl ho (by repeat (first | exact List.Mem.head _ | refine List.Mem.tail _ ?_)) (oneR L) (by omega) (by omega)) ?_
  rintro _ _ ⟨o2, c2, t2, rfl, own2, rfl⟩
  rw [Nat.zero_add, List.nil_append] at own2 ⊢
  refine WL_val rfl rfl rfl (R_build rfl zv53 pl53 rfl rfl) ?_
  refine WL_do0 rfl rfl (D_store (vs := [_]) rfl Try.sizeOf53 rfl rfl rfl rfl rfl (by repeat (first | exact Pull.head | apply Pull.tail)) (by exact Nat.le_of_ble_eq_true rfl)) ?_
  rintro _ _ rfl
  refine WL_nil ?_
  refine WQ_code ?_
  refine WC_ret ?_
  refine WQ_ret rfl rfl (.cons (.cell (vs := [_]) rfl ag53 (by repeat (first | exact List.Mem.head _ | refine List.Mem.tail _ ?_)) rfl (by repeat (first | exact At.nil | refine At.cons ?_ | refine At.succ ?_))) .nil) rfl (by
      exact ⟨o2, c2, t2, rfl, own2, rfl⟩) (by repeat (first | exact Pulls.nil | exact Pulls.all | (apply Pulls.cons; (repeat (first | exact Pull.head | apply Pull.tail))) | apply Pulls.skip))
theorem rpass_ok (a b : Nat) : Spec Try.prog 54 [.int .u64 (a : Int), .int .u64 (b : Int)] [] (fun r H' => r = .bool (decide (a ≠ 18446744073709551615 ∧ b ≠ 18446744073709551615 ∧ a ≤ b)) ∧ H' = []) := by
  refine Spec.of (E := [(0, .int .u64 (a : Int)), (1, .int .u64 (b : Int))]) Try.func54 rfl (by kernel_rfl) Try.ntmps54 rfl rfl (fun w => ?_)
  refine WC_seq ?_
  refine WC_region ?_
  refine WL_val rfl rfl rfl (R_assign rfl rfl) ?_
  refine WL_nil ?_
  refine WQ_code ?_
  refine WC_seq ?_
  refine WC_region ?_
  refine WL_val rfl rfl rfl (R_move rfl rfl) ?_
  refine WL_val rfl rfl rfl (R_neq rfl rfl rfl) ?_
  refine WL_val rfl rfl rfl (R_move rfl rfl) ?_
  refine WL_splitD (s := 7) rfl (fun c1 => ?_) (fun c1 => ?_)
  · have h7 : (a : Int) ≠ 18446744073709551615 := c1
    refine WL_val rfl rfl rfl (R_move rfl rfl) ?_
    refine WL_val rfl rfl rfl (R_neq rfl rfl rfl) ?_
    refine WL_val rfl rfl rfl (R_pickT rfl rfl rfl) ?_
    refine WL_val rfl rfl rfl (R_move rfl rfl) ?_
    refine WL_splitD (s := 11) rfl (fun c2 => ?_) (fun c2 => ?_)
    · have h11 : (b : Int) ≠ 18446744073709551615 := c2
      refine WL_val rfl rfl rfl (R_move rfl rfl) ?_
      refine WL_val rfl rfl rfl (R_move rfl rfl) ?_
      refine WL_val rfl rfl rfl (R_leq rfl rfl rfl) ?_
      refine WL_val rfl rfl rfl (R_pickT rfl rfl rfl) ?_
      refine WL_val rfl rfl rfl (R_assign rfl rfl) ?_
      refine WL_nil ?_
      refine WQ_code ?_
      refine WC_ret ?_
      refine WQ_ret rfl rfl (.cons (.tmp rfl) .nil) rfl (by
          exact ⟨congrArg Value.bool (by rw [decide_eq_decide]; omega), rfl⟩) (by repeat (first | exact Pulls.nil | exact Pulls.all | (apply Pulls.cons; (repeat (first | exact Pull.head | apply Pull.tail))) | apply Pulls.skip))
    · have h11 : ¬ (b : Int) ≠ 18446744073709551615 := c2
      refine WL_skip rfl rfl rfl ?_
      refine WL_skip rfl rfl rfl ?_
      refine WL_skip rfl rfl rfl ?_
      refine WL_val rfl rfl rfl (R_pickF rfl rfl rfl) ?_
      refine WL_val rfl rfl rfl (R_assign rfl rfl) ?_
      refine WL_nil ?_
      refine WQ_code ?_
      refine WC_ret ?_
      refine WQ_ret rfl rfl (.cons (.tmp rfl) .nil) rfl (by
          exact ⟨congrArg Value.bool (by symm; rw [decide_eq_false_iff_not]; omega), rfl⟩) (by repeat (first | exact Pulls.nil | exact Pulls.all | (apply Pulls.cons; (repeat (first | exact Pull.head | apply Pull.tail))) | apply Pulls.skip))
  · have h7 : ¬ (a : Int) ≠ 18446744073709551615 := c1
    refine WL_skip rfl rfl rfl ?_
    refine WL_skip rfl rfl rfl ?_
    refine WL_val rfl rfl rfl (R_pickF rfl rfl rfl) ?_
    refine WL_val rfl rfl rfl (R_move rfl rfl) ?_
    refine WL_skip rfl rfl rfl ?_
    refine WL_skip rfl rfl rfl ?_
    refine WL_skip rfl rfl rfl ?_
    refine WL_val rfl rfl rfl (R_pickF rfl rfl rfl) ?_
    refine WL_val rfl rfl rfl (R_assign rfl rfl) ?_
    refine WL_nil ?_
    refine WQ_code ?_
    refine WC_ret ?_
    refine WQ_ret rfl rfl (.cons (.tmp rfl) .nil) rfl (by
        exact ⟨congrArg Value.bool (by symm; rw [decide_eq_false_iff_not]; omega), rfl⟩) (by repeat (first | exact Pulls.nil | exact Pulls.all | (apply Pulls.cons; (repeat (first | exact Pull.head | apply Pull.tail))) | apply Pulls.skip))

end Go.Proofs.Ytbaagjiailmlhaa
