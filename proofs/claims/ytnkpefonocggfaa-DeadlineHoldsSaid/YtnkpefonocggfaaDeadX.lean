/-
  Chapter 10 (deadline), part DeadX: contracts of functions that the laws call, each for the heap it names.
-/
import Derived.Test.YtnkpefonocggfaaRows
import Derived.Test.YtnkpefonocggfaaSLPhase
import Derived.Test.YtnkpefonocggfaaSLInt
import Derived.Test.YtnkpefonocggfaaTab
import Derived.Test.YtnkpefonocggfaaDead
import Derived.Test.YtnkpefonocggfaaSortKL
import Derived.Test.YtnkpefonocggfaaSLCopy
import Derived.Test.YtnkpefonocggfaaArrEq
set_option linter.unusedVariables false
set_option maxRecDepth 20000
set_option maxHeartbeats 2000000
namespace Go.Proofs.Ytnkpefonocggfaa


theorem Spec.frm {P : Program} {f : FuncId} {args : List Value} {H : Heap} {post : Value → Heap → Prop} (h : Spec P f args H post) (F : Heap) : Spec P f args (H ++ F) (fun v H' => ∃ H1, post v H1 ∧ H' = H1 ++ F) :=
  ⟨h.enters, fun w hw => (h.calls w hw.left).mono fun e w' ⟨v, H', e1, p, r⟩ => ⟨v, H' ++ F, e1, ⟨H', p, rfl⟩, HW.frame (HW.start hw) (.refl _) r⟩⟩
theorem quoI {a b : Nat} (ha : a < 9223372036854775808) (hb : 1 ≤ b) : IntKind.i64.wrap (((a : Int)).tdiv (b : Int)) = ((a / b : Nat) : Int) := by
  have h : a / b ≤ a := Nat.div_le_self a b
  rw [Int.tdiv_eq_ediv_of_nonneg (by omega), show ((a : Int) / (b : Int)) = ((a / b : Nat) : Int) from (Int.natCast_ediv a b).symm]
  generalize a / b = q at *
  rw [IntWalk.i64_in _ (by omega)]
theorem tk_next {α : Type} {l : List α} {k : Nat} {x : α} (h : l[k]? = some x) : l.take (k + 1) = l.take k ++ [x] := by
  obtain ⟨h2, rfl⟩ := List.getElem?_eq_some_iff.1 h
  rw [List.take_append_getElem]
def cmpP (x0 x1 y0 y1 : Int) : Int := if x0 = y0 ∧ x1 = y1 then 0 else orL [cmpI x0 y0, cmpI x1 y1]
def cmpLp (x y : Lp) : Int := orL [cmpI x.at_ y.at_, cmpP x.fd x.dir y.fd y.dir]
theorem orL2 (a b : Int) : orL [a, b] = if a = 0 then b else a := by
  unfold orL
  by_cases h : a = 0 <;> by_cases h2 : b = 0 <;> simp [h, h2]
theorem cmpLp_lt (x y : Lp) : cmpLp x y < 0 ↔ lpLt x y := by
  unfold cmpLp lpLt
  rw [orL2, cmpP, orL2]
  unfold cmpI
  repeat' split
  all_goals omega
theorem pcmp_ok (x0 x1 y0 y1 : Int) : Spec Try.prog 41 [.agg #[.int .i64 x0, .int .i64 x1], .agg #[.int .i64 y0, .int .i64 y1]] [] (fun r H' => r = .int .i64 (cmpP x0 x1 y0 y1) ∧ H' = []) := by
  refine Spec.of (E := [(0, .agg #[.int .i64 x0, .int .i64 x1]), (1, .agg #[.int .i64 y0, .int .i64 y1])]) Try.func41 rfl (by kernel_rfl) Try.ntmps41 rfl rfl (fun w => ?_)
  refine WC_seq ?_
  refine WC_region ?_
  refine WL_do rfl rfl rfl (D_box (cs := [_, _]) rfl rfl rfl) ?_
  rintro _ _ ⟨b1, rfl, rfl⟩
  refine WL_do rfl rfl rfl (D_box (cs := [_, _]) rfl rfl rfl) ?_
  rintro _ _ ⟨b2, rfl, rfl⟩
  refine WL_val rfl rfl rfl (R_assign rfl rfl) ?_
  refine WL_nil ?_
  refine WQ_code ?_
  refine WC_seq ?_
  refine WC_seq ?_
  refine WC_region ?_
  refine WL_val rfl rfl rfl (R_loadA (vs := [_, _]) rfl ag96 rfl (by repeat (first | exact List.Mem.head _ | refine List.Mem.tail _ ?_)) rfl (by repeat (first | exact At.nil | refine At.cons ?_ | refine At.succ ?_))) ?_
  refine WL_val rfl rfl rfl (R_loadA (vs := [_, _]) rfl ag96 rfl (by repeat (first | exact List.Mem.head _ | refine List.Mem.tail _ ?_)) rfl (by repeat (first | exact At.nil | refine At.cons ?_ | refine At.succ ?_))) ?_
  refine WL_val rfl rfl rfl (R_areq rfl rfl rfl rfl) ?_
  refine WL_nil ?_
  refine WQ_code ?_
  refine WC_dec rfl (fun c1 => ?_) (fun c1 => ?_)
  · refine WC_seq ?_
    refine WC_region ?_
    refine WL_val rfl rfl rfl (R_assign rfl rfl) ?_
    refine WL_nil ?_
    refine WQ_code ?_
    refine WC_ret ?_
    refine WQ_ret rfl rfl (.cons (.tmp rfl) .nil) rfl (by
        exact ⟨congrArg (Value.int .i64) (by unfold cmpP; rw [if_pos (by assumption)]), rfl⟩) (by repeat (first | exact Pulls.nil | exact Pulls.all | (apply Pulls.cons; (repeat (first | exact Pull.head | apply Pull.tail))) | apply Pulls.skip))
  · refine WC_skip ?_
    refine WQ_code ?_
    refine WC_seq ?_
    refine WC_draw _ [(0, true), (1, true), (2, true), (3, true), (4, true), (5, true), (6, true), (7, true), (8, true), (9, true), (10, false), (11, false), (12, true)] followsMixed rfl rfl (by kernel_rfl) .all ?_
    refine WM_val rfl rfl rfl rfl (R_indexAddrA rfl Try.underlying96 Try.sizeOf3 rfl rfl (by omega)) ?_
    refine WM_val rfl rfl rfl rfl (R_load rfl sc3 rfl (by repeat (first | exact List.Mem.head _ | refine List.Mem.tail _ ?_)) rfl) ?_
    refine WM_val rfl rfl rfl rfl (R_indexAddrA rfl Try.underlying96 Try.sizeOf3 rfl rfl (by omega)) ?_
    refine WM_val rfl rfl rfl rfl (R_load rfl sc3 rfl (by repeat (first | exact List.Mem.head _ | refine List.Mem.tail _ ?_)) rfl) ?_
    refine WM_call rfl (Spec.quiet (cmpi_ok _ _)) rfl rfl rfl rfl rfl rfl rfl (by repeat (first | exact Pulls.nil | exact Pulls.all | (apply Pulls.cons; (repeat (first | exact Pull.head | apply Pull.tail))) | apply Pulls.skip)) ?_
    refine WM_val rfl rfl rfl rfl (R_indexAddrA rfl Try.underlying96 Try.sizeOf3 rfl rfl (by omega)) ?_
    refine WM_val rfl rfl rfl rfl (R_load rfl sc3 rfl (by repeat (first | exact List.Mem.head _ | refine List.Mem.tail _ ?_)) rfl) ?_
    refine WM_val rfl rfl rfl rfl (R_indexAddrA rfl Try.underlying96 Try.sizeOf3 rfl rfl (by omega)) ?_
    refine WM_val rfl rfl rfl rfl (R_load rfl sc3 rfl (by repeat (first | exact List.Mem.head _ | refine List.Mem.tail _ ?_)) rfl) ?_
    refine WM_call rfl (Spec.quiet (cmpi_ok _ _)) rfl rfl rfl rfl rfl rfl rfl (by repeat (first | exact Pulls.nil | exact Pulls.all | (apply Pulls.cons; (repeat (first | exact Pull.head | apply Pull.tail))) | apply Pulls.skip)) ?_
    refine WM_do rfl rfl rfl rfl (D_buildSlice rfl si116 rfl rfl rfl) ?_
    rintro _ _ ⟨b3, rfl, rfl⟩
    refine ⟨⟨_, by repeat (first | exact Pulls.nil | exact Pulls.all | (apply Pulls.cons; (repeat (first | exact Pull.head | apply Pull.tail))) | apply Pulls.skip)⟩, ?_⟩
    refine WM_do rfl rfl rfl rfl (D_call (or_ok b3 2 [cmpI x0 y0, cmpI x1 y1] [] (by simp)) rfl rfl rfl rfl (by repeat (first | exact Pulls.nil | exact Pulls.all | (apply Pulls.cons; (repeat (first | exact Pull.head | apply Pull.tail))) | apply Pulls.skip))) ?_
    rintro _ _ ⟨_, ⟨rfl, rfl⟩, rfl⟩
    refine ⟨⟨_, by repeat (first | exact Pulls.nil | exact Pulls.all | (apply Pulls.cons; (repeat (first | exact Pull.head | apply Pull.tail))) | apply Pulls.skip)⟩, ?_⟩
    refine WM_val rfl rfl rfl rfl (R_assign rfl rfl) ?_
    refine WM_nil ?_
    refine WQ_code ?_
    refine WC_ret ?_
    refine WQ_ret rfl rfl (.cons (.tmp rfl) .nil) rfl (by
        exact ⟨congrArg (Value.int .i64) (by unfold cmpP; rw [if_neg (by assumption)]), rfl⟩) (by repeat (first | exact Pulls.nil | exact Pulls.all | (apply Pulls.cons; (repeat (first | exact Pull.head | apply Pull.tail))) | apply Pulls.skip))
theorem pof_ok (x0 x1 : Int) : Spec Try.prog 46 [.agg #[.int .i64 x0, .int .i64 x1]] [] (fun r H' => r = .agg #[.int .i64 x0, .int .i64 x1] ∧ H' = []) := by
  refine Spec.of (E := [(0, .agg #[.int .i64 x0, .int .i64 x1])]) Try.func46 rfl (by kernel_rfl) Try.ntmps46 rfl rfl (fun w => ?_)
  refine WC_seq ?_
  refine WC_region ?_
  refine WL_do rfl rfl rfl (D_box (cs := [_, _]) rfl rfl rfl) ?_
  rintro _ _ ⟨b1, rfl, rfl⟩
  refine WL_do rfl rfl rfl (D_alloc rfl zv96) ?_
  rintro _ _ ⟨b2, rfl, rfl⟩
  refine WL_nil ?_
  refine WQ_code ?_
  refine WC_seq ?_
  refine WC_region ?_
  refine WL_val rfl rfl rfl (R_fieldAddr rfl fa24_0 rfl) ?_
  refine WL_val rfl rfl rfl (R_load rfl sc3 rfl (by repeat (first | exact List.Mem.head _ | refine List.Mem.tail _ ?_)) rfl) ?_
  refine WL_val rfl rfl rfl (R_fieldAddr rfl fa24_1 rfl) ?_
  refine WL_val rfl rfl rfl (R_load rfl sc22 rfl (by repeat (first | exact List.Mem.head _ | refine List.Mem.tail _ ?_)) rfl) ?_
  refine WL_val rfl rfl rfl (R_buildArr rfl Try.underlying96 Try.sizeOf3 zv96 rfl rfl) ?_
  refine WL_do0 rfl rfl (D_store (vs := [_, _]) rfl Try.sizeOf96 rfl rfl rfl rfl rfl (by repeat (first | exact Pull.head | apply Pull.tail)) (by exact Nat.le_of_ble_eq_true rfl)) ?_
  rintro _ _ rfl
  refine WL_nil ?_
  refine WQ_code ?_
  refine WC_ret ?_
  refine WQ_ret rfl rfl (.cons (.cell (vs := [_, _]) rfl ag96 (by repeat (first | exact List.Mem.head _ | refine List.Mem.tail _ ?_)) rfl (by repeat (first | exact At.nil | refine At.cons ?_ | refine At.succ ?_))) .nil) rfl (by
      exact ⟨rfl, rfl⟩) (by repeat (first | exact Pulls.nil | exact Pulls.all | (apply Pulls.cons; (repeat (first | exact Pull.head | apply Pull.tail))) | apply Pulls.skip))
theorem pspot_ok (x0 x1 : Int) : Spec Try.prog 40 [.agg #[.int .i64 x0, .int .i64 x1]] [] (fun r H' => r = .agg #[.int .i64 x0, .int .i64 x1] ∧ H' = []) := by
  refine Spec.of (E := [(0, .agg #[.int .i64 x0, .int .i64 x1])]) Try.func40 rfl (by kernel_rfl) Try.ntmps40 rfl rfl (fun w => ?_)
  refine WC_seq ?_
  refine WC_region ?_
  refine WL_do rfl rfl rfl (D_box (cs := [_, _]) rfl rfl rfl) ?_
  rintro _ _ ⟨b1, rfl, rfl⟩
  refine WL_do rfl rfl rfl (D_alloc rfl zv24) ?_
  rintro _ _ ⟨b2, rfl, rfl⟩
  refine WL_nil ?_
  refine WQ_code ?_
  refine WC_seq ?_
  refine WC_region ?_
  refine WL_val rfl rfl rfl (R_indexAddrA rfl Try.underlying96 Try.sizeOf3 rfl rfl (by omega)) ?_
  refine WL_val rfl rfl rfl (R_load rfl sc3 rfl (by repeat (first | exact List.Mem.head _ | refine List.Mem.tail _ ?_)) rfl) ?_
  refine WL_val rfl rfl rfl (R_indexAddrA rfl Try.underlying96 Try.sizeOf3 rfl rfl (by omega)) ?_
  refine WL_val rfl rfl rfl (R_load rfl sc3 rfl (by repeat (first | exact List.Mem.head _ | refine List.Mem.tail _ ?_)) rfl) ?_
  refine WL_val rfl rfl rfl (R_build rfl zv24 pl24 rfl rfl) ?_
  refine WL_do0 rfl rfl (D_store (vs := [_, _]) rfl Try.sizeOf24 rfl rfl rfl rfl rfl (by repeat (first | exact Pull.head | apply Pull.tail)) (by exact Nat.le_of_ble_eq_true rfl)) ?_
  rintro _ _ rfl
  refine WL_nil ?_
  refine WQ_code ?_
  refine WC_ret ?_
  refine WQ_ret rfl rfl (.cons (.cell (vs := [_, _]) rfl ag24 (by repeat (first | exact List.Mem.head _ | refine List.Mem.tail _ ?_)) rfl (by repeat (first | exact At.nil | refine At.cons ?_ | refine At.succ ?_))) .nil) rfl (by
      exact ⟨rfl, rfl⟩) (by repeat (first | exact Pulls.nil | exact Pulls.all | (apply Pulls.cons; (repeat (first | exact Pull.head | apply Pull.tail))) | apply Pulls.skip))
theorem dac_ok (x y : Lp) (bq : Nat) : Spec Try.prog 43 [.agg (encLp x).toArray, .agg (encLp y).toArray, ptrH bq] [⟨some bq, cl [.func (.func 41) #[] #[]] 98⟩] (fun r H' => r = .int .i64 (cmpLp x y) ∧ H' = [⟨some bq, cl [.func (.func 41) #[] #[]] 98⟩]) := by
  refine Spec.of (E := [(0, .agg (encLp x).toArray), (1, .agg (encLp y).toArray), (2, ptrH bq)]) Try.func43 rfl (by kernel_rfl) Try.ntmps43 rfl rfl (fun w => ?_)
  refine WC_seq ?_
  refine WC_region ?_
  refine WL_do rfl rfl rfl (D_box (cs := [_, _, _]) rfl rfl rfl) ?_
  rintro _ _ ⟨b1, rfl, rfl⟩
  refine WL_do rfl rfl rfl (D_box (cs := [_, _, _]) rfl rfl rfl) ?_
  rintro _ _ ⟨b2, rfl, rfl⟩
  refine WL_val rfl rfl rfl (R_assign rfl rfl) ?_
  refine WL_nil ?_
  refine WQ_code ?_
  refine WC_seq ?_
  refine WC_draw _ [(0, true), (1, true), (2, true), (3, true), (4, true), (5, true), (6, true), (7, true), (8, true), (9, true), (10, true), (11, true), (12, true), (13, false), (14, false), (15, true)] followsMixed rfl rfl (by kernel_rfl) .all ?_
  refine WM_val rfl rfl rfl rfl (R_fieldAddr rfl fa40_1 rfl) ?_
  refine WM_val rfl rfl rfl rfl (R_load rfl sc26 rfl (by repeat (first | exact List.Mem.head _ | refine List.Mem.tail _ ?_)) rfl) ?_
  refine WM_val rfl rfl rfl rfl (R_fieldAddr rfl fa40_1 rfl) ?_
  refine WM_val rfl rfl rfl rfl (R_load rfl sc26 rfl (by repeat (first | exact List.Mem.head _ | refine List.Mem.tail _ ?_)) rfl) ?_
  refine WM_call rfl (Spec.quiet (cmpt_ok _ _)) rfl rfl rfl rfl rfl rfl rfl (by repeat (first | exact Pulls.nil | exact Pulls.all | (apply Pulls.cons; (repeat (first | exact Pull.head | apply Pull.tail))) | apply Pulls.skip)) ?_
  refine WM_val rfl rfl rfl rfl (R_load rfl sc98 rfl (by repeat (first | exact List.Mem.head _ | refine List.Mem.tail _ ?_)) rfl) ?_
  refine WM_val rfl rfl rfl rfl (R_fieldAddr rfl fa40_0 rfl) ?_
  refine WM_val rfl rfl rfl rfl (R_loadA (vs := [_, _]) rfl ag24 rfl (by repeat (first | exact List.Mem.head _ | refine List.Mem.tail _ ?_)) rfl (by repeat (first | exact At.nil | refine At.cons ?_ | refine At.succ ?_))) ?_
  refine WM_call rfl (Spec.quiet (pof_ok _ _)) rfl rfl rfl rfl rfl rfl rfl (by repeat (first | exact Pulls.nil | exact Pulls.all | (apply Pulls.cons; (repeat (first | exact Pull.head | apply Pull.tail))) | apply Pulls.skip)) ?_
  refine WM_val rfl rfl rfl rfl (R_fieldAddr rfl fa40_0 rfl) ?_
  refine WM_val rfl rfl rfl rfl (R_loadA (vs := [_, _]) rfl ag24 rfl (by repeat (first | exact List.Mem.head _ | refine List.Mem.tail _ ?_)) rfl (by repeat (first | exact At.nil | refine At.cons ?_ | refine At.succ ?_))) ?_
  refine WM_call rfl (Spec.quiet (pof_ok _ _)) rfl rfl rfl rfl rfl rfl rfl (by repeat (first | exact Pulls.nil | exact Pulls.all | (apply Pulls.cons; (repeat (first | exact Pull.head | apply Pull.tail))) | apply Pulls.skip)) ?_
  refine WM_call rfl (Spec.quiet (pcmp_ok _ _ _ _)) rfl rfl rfl rfl rfl rfl rfl (by repeat (first | exact Pulls.nil | exact Pulls.all | (apply Pulls.cons; (repeat (first | exact Pull.head | apply Pull.tail))) | apply Pulls.skip)) ?_
  refine WM_do rfl rfl rfl rfl (D_buildSlice rfl si116 rfl rfl rfl) ?_
  rintro _ _ ⟨b3, rfl, rfl⟩
  refine ⟨⟨_, by repeat (first | exact Pulls.nil | exact Pulls.all | (apply Pulls.cons; (repeat (first | exact Pull.head | apply Pull.tail))) | apply Pulls.skip)⟩, ?_⟩
  refine WM_do rfl rfl rfl rfl (D_call (or_ok b3 2 [cmpI x.at_ y.at_, cmpP x.fd x.dir y.fd y.dir] [] (by simp)) rfl rfl rfl rfl (by repeat (first | exact Pulls.nil | exact Pulls.all | (apply Pulls.cons; (repeat (first | exact Pull.head | apply Pull.tail))) | apply Pulls.skip))) ?_
  rintro _ _ ⟨_, ⟨rfl, rfl⟩, rfl⟩
  refine ⟨⟨_, by repeat (first | exact Pulls.nil | exact Pulls.all | (apply Pulls.cons; (repeat (first | exact Pull.head | apply Pull.tail))) | apply Pulls.skip)⟩, ?_⟩
  refine WM_val rfl rfl rfl rfl (R_assign rfl rfl) ?_
  refine WM_nil ?_
  refine WQ_code ?_
  refine WC_ret ?_
  refine WQ_ret rfl rfl (.cons (.tmp rfl) .nil) rfl (by
      exact ⟨rfl, rfl⟩) (by repeat (first | exact Pulls.nil | exact Pulls.all | (apply Pulls.cons; (repeat (first | exact Pull.head | apply Pull.tail))) | apply Pulls.skip))
open Go.Shelf Go.RowKit Go.Lib Go.Sort
theorem dsort_ok (l : List Lp) (hl : l.length ≤ 1000000) (ob : Option Nat) (c : Nat) (tl : List Value) (own : Own ob l.length c 3 (l.flatMap encLp) tl) (bq : Nat) : Spec Try.prog 42 [slV ob l.length c, .func (.func 43) #[] #[ptrH bq]] [⟨ob, cl (l.flatMap encLp ++ tl) 40⟩, ⟨some bq, cl [.func (.func 41) #[] #[]] 98⟩]
    (fun r H' => ∃ l' : List Lp, r = .tuple #[] ∧ l'.Perm l ∧ l'.Pairwise (fun a b => ¬ lpLt b a) ∧ H' = [⟨ob, cl (l'.flatMap encLp ++ tl) 40⟩, ⟨some bq, cl [.func (.func 41) #[] #[]] 98⟩]) := by
  haveI : Inhabited Lp := ⟨⟨0, 0, 0⟩⟩
  cases ob with
  | none =>
    obtain ⟨h0, rfl, h2, rfl⟩ := own.void'
    have hl0 : l = [] := List.eq_nil_of_length_eq_zero h0
    subst hl0
    refine ((sort_none lysK 42 rfl (Enters.mk Try.func42 rfl rfl) none 0 (.func (.func 43) #[] #[ptrH bq])).frm [⟨none, cl [] 40⟩, ⟨some bq, cl [.func (.func 41) #[] #[]] 98⟩]).mono fun r H' ⟨H1, ⟨e1, e2⟩, e3⟩ => ⟨[], e1, .refl _, .nil, ?_⟩
    subst e2; exact e3
  | some b =>
    refine (sortK_ok (enc := encLp) (k := 3) lysK 42 rfl (fun w => (ag40 w).1) (fun w => (ag40 w).2) encLp3 (fun x v hv => ?_) cmpLp ?swo 43 [ptrH bq] [⟨some bq, cl [.func (.func 41) #[] #[]] 98⟩] (fun x y => dac_ok x y bq) (Enters.mk Try.func42 rfl rfl) b l.length c 40 l tl rfl (by omega)).mono fun r H' ⟨d', e1, e2, e3, e4⟩ => ⟨d', e1, e2, ?_, e4⟩
    · simp only [encLp, List.mem_cons, List.not_mem_nil, or_false] at hv
      rcases hv with rfl | rfl | rfl <;> rfl
    case swo =>
      refine ⟨fun x => ?_, fun x y z h1 h2 => ?_, fun x y z h1 h2 => ?_⟩
      · simp only [ltOf, decide_eq_false_iff_not, cmpLp_lt]; exact lp_irrefl x
      · simp only [ltOf, decide_eq_true_eq, cmpLp_lt] at *; exact lp_trans h1 h2
      · simp only [ltOf, decide_eq_false_iff_not, cmpLp_lt] at *; unfold lpLt at *; omega
    · refine e3.imp fun {a b} h => ?_
      simpa only [ltOf, decide_eq_false_iff_not, cmpLp_lt] using h
structure AvW where
  k : Nat
  S : List Sl
  o : List Lp
  ob : Option Nat
  c : Nat
  tl : List Value
section
variable {f : Nat → Nat} {now : Nat}
theorem dadv_never (d : DM) (hd : DIs f now d) : Spec Try.prog 19 [ptrH d.p, .int .u64 18446744073709551615] (dlH now d) (fun r H' => r = .tuple #[.slice none 0 0, .int .i64 2] ∧ H' = dlH now d) := by
  refine Spec.of (E := [(0, ptrH d.p), (1, .int .u64 18446744073709551615)]) Try.func19 rfl (by kernel_rfl) Try.ntmps19 rfl rfl (fun w => ?_)
  refine WC_seq ?_
  refine WC_region ?_
  refine WL_val rfl rfl rfl (R_assign rfl rfl) ?_
  refine WL_val rfl rfl rfl (R_assign rfl rfl) ?_
  refine WL_nil ?_
  refine WQ_code ?_
  refine WC_seq ?_
  refine WC_seq ?_
  refine WC_region ?_
  refine WL_val rfl rfl rfl (R_move rfl rfl) ?_
  refine WL_do rfl rfl rfl (D_call (dzero_ok d.p d.pc d.m.pt d.S) rfl rfl rfl rfl (by repeat (first | exact Pulls.nil | exact Pulls.all | (apply Pulls.cons; (repeat (first | exact Pull.head | apply Pull.tail))) | apply Pulls.skip))) ?_
  rintro _ _ ⟨_, ⟨rfl, rfl⟩, rfl⟩
  refine WL_nil ?_
  refine WQ_code ?_
  refine WC_F rfl ?_
  refine WC_skip ?_
  refine WQ_code ?_
  refine WC_seq ?_
  refine WC_seq ?_
  refine WC_region ?_
  refine WL_val rfl rfl rfl (R_move rfl rfl) ?_
  refine WL_val rfl rfl rfl (R_nilCheck rfl rfl) ?_
  refine WL_val rfl rfl rfl (R_fieldAddr rfl fa74_0 rfl) ?_
  refine WL_val rfl rfl rfl (R_load rfl sc65 rfl (by repeat (first | exact List.Mem.head _ | refine List.Mem.tail _ ?_)) rfl) ?_
  refine WL_val rfl rfl rfl (R_move rfl rfl) ?_
  refine WL_do rfl rfl rfl (D_call (vadv_never d.pc now) rfl rfl rfl rfl (by repeat (first | exact Pulls.nil | exact Pulls.all | (apply Pulls.cons; (repeat (first | exact Pull.head | apply Pull.tail))) | apply Pulls.skip))) ?_
  rintro _ _ ⟨_, ⟨rfl, rfl⟩, rfl⟩
  refine WL_val rfl rfl rfl (R_assign rfl rfl) ?_
  refine WL_nil ?_
  refine WQ_code ?_
  refine WC_seq ?_
  refine WC_region ?_
  refine WL_val rfl rfl rfl (R_move rfl rfl) ?_
  refine WL_val rfl rfl rfl (R_neq rfl rfl rfl) ?_
  refine WL_nil ?_
  refine WQ_code ?_
  refine WC_dT rfl (by simp) ?_
  refine WC_seq ?_
  refine WC_region ?_
  refine WL_val rfl rfl rfl (R_move rfl rfl) ?_
  refine WL_val rfl rfl rfl (R_assign rfl rfl) ?_
  refine WL_val rfl rfl rfl (R_assign rfl rfl) ?_
  refine WL_nil ?_
  refine WQ_code ?_
  refine WC_ret ?_
  refine WQ_ret rfl rfl (.cons (.tmp rfl) (.cons (.tmp rfl) .nil)) rfl (by
      exact ⟨rfl, rfl⟩) (by repeat (first | exact Pulls.nil | exact Pulls.all | (apply Pulls.cons; (repeat (first | exact Pull.head | apply Pull.tail))) | apply Pulls.skip))
theorem dadv_past (d : DM) (hd : DIs f now d) (to : Nat) (h : to < now) : Spec Try.prog 19 [ptrH d.p, .int .u64 (to : Int)] (dlH now d) (fun r H' => r = .tuple #[.slice none 0 0, .int .i64 3] ∧ H' = dlH now d) := by
  have hnv := hd.r.nv
  refine Spec.of (E := [(0, ptrH d.p), (1, .int .u64 (to : Int))]) Try.func19 rfl (by kernel_rfl) Try.ntmps19 rfl rfl (fun w => ?_)
  refine WC_seq ?_
  refine WC_region ?_
  refine WL_val rfl rfl rfl (R_assign rfl rfl) ?_
  refine WL_val rfl rfl rfl (R_assign rfl rfl) ?_
  refine WL_nil ?_
  refine WQ_code ?_
  refine WC_seq ?_
  refine WC_seq ?_
  refine WC_region ?_
  refine WL_val rfl rfl rfl (R_move rfl rfl) ?_
  refine WL_do rfl rfl rfl (D_call (dzero_ok d.p d.pc d.m.pt d.S) rfl rfl rfl rfl (by repeat (first | exact Pulls.nil | exact Pulls.all | (apply Pulls.cons; (repeat (first | exact Pull.head | apply Pull.tail))) | apply Pulls.skip))) ?_
  rintro _ _ ⟨_, ⟨rfl, rfl⟩, rfl⟩
  refine WL_nil ?_
  refine WQ_code ?_
  refine WC_F rfl ?_
  refine WC_skip ?_
  refine WQ_code ?_
  refine WC_seq ?_
  refine WC_seq ?_
  refine WC_region ?_
  refine WL_val rfl rfl rfl (R_move rfl rfl) ?_
  refine WL_val rfl rfl rfl (R_nilCheck rfl rfl) ?_
  refine WL_val rfl rfl rfl (R_fieldAddr rfl fa74_0 rfl) ?_
  refine WL_val rfl rfl rfl (R_load rfl sc65 rfl (by repeat (first | exact List.Mem.head _ | refine List.Mem.tail _ ?_)) rfl) ?_
  refine WL_val rfl rfl rfl (R_move rfl rfl) ?_
  refine WL_do rfl rfl rfl (D_call (vadv_past d.pc now to h (by omega)) rfl rfl rfl rfl (by repeat (first | exact Pulls.nil | exact Pulls.all | (apply Pulls.cons; (repeat (first | exact Pull.head | apply Pull.tail))) | apply Pulls.skip))) ?_
  rintro _ _ ⟨_, ⟨rfl, rfl⟩, rfl⟩
  refine WL_val rfl rfl rfl (R_assign rfl rfl) ?_
  refine WL_nil ?_
  refine WQ_code ?_
  refine WC_seq ?_
  refine WC_region ?_
  refine WL_val rfl rfl rfl (R_move rfl rfl) ?_
  refine WL_val rfl rfl rfl (R_neq rfl rfl rfl) ?_
  refine WL_nil ?_
  refine WQ_code ?_
  refine WC_dT rfl (by simp) ?_
  refine WC_seq ?_
  refine WC_region ?_
  refine WL_val rfl rfl rfl (R_move rfl rfl) ?_
  refine WL_val rfl rfl rfl (R_assign rfl rfl) ?_
  refine WL_val rfl rfl rfl (R_assign rfl rfl) ?_
  refine WL_nil ?_
  refine WQ_code ?_
  refine WC_ret ?_
  refine WQ_ret rfl rfl (.cons (.tmp rfl) (.cons (.tmp rfl) .nil)) rfl (by
      exact ⟨rfl, rfl⟩) (by repeat (first | exact Pulls.nil | exact Pulls.all | (apply Pulls.cons; (repeat (first | exact Pull.head | apply Pull.tail))) | apply Pulls.skip))
theorem dadv_ok (d : DM) (hd : DIs f now d) (to : Nat) (h1 : now ≤ to) (h2 : to < 18446744073709551615) : Spec Try.prog 19 [ptrH d.p, .int .u64 (to : Int)] (dlH now d)
    (fun r H' => ∃ (l : List Lp) (ob : Option Nat) (c : Nat) (tl : List Value) (d' : DM), r = .tuple #[slV ob l.length c, .int .i64 0] ∧ Own ob l.length c 3 (l.flatMap encLp) tl ∧ IsLap f now to l ∧ l.length ≤ 1024 ∧ H' = ⟨ob, cl (l.flatMap encLp ++ tl) 40⟩ :: dlH to d' ∧ d'.p = d.p ∧ d'.m.g.n = d.m.g.n ∧ DIs f to d') := by
  have hxl : (eL to d.L).2.length ≤ 1024 := by
    refine Nat.le_trans (eL_ind (fun L z => z.2.length ≤ (live L).length) (fun L _ => Nat.zero_le _) (fun L i t _ _ => Nat.zero_le _) (fun L gv n i t z r h hn ih => ?_) _ d.L d.m.gv _ hd.t.r rfl) hd.t.live_len
    have hf := fstP_some h
    have := live_rm r hf.at_ hf.g
    simp only [List.length_cons]; omega
  have hxm := eL_mem hd.t.r (now := to)
  refine Spec.of (E := [(0, ptrH d.p), (1, .int .u64 (to : Int))]) Try.func19 rfl (by kernel_rfl) Try.ntmps19 rfl rfl (fun w => ?_)
  refine WC_seq ?_
  refine WC_region ?_
  refine WL_val rfl rfl rfl (R_assign rfl rfl) ?_
  refine WL_val rfl rfl rfl (R_assign rfl rfl) ?_
  refine WL_nil ?_
  refine WQ_code ?_
  refine WC_seq ?_
  refine WC_seq ?_
  refine WC_region ?_
  refine WL_val rfl rfl rfl (R_move rfl rfl) ?_
  refine WL_do rfl rfl rfl (D_call (dzero_ok d.p d.pc d.m.pt d.S) rfl rfl rfl rfl (by repeat (first | exact Pulls.nil | exact Pulls.all | (apply Pulls.cons; (repeat (first | exact Pull.head | apply Pull.tail))) | apply Pulls.skip))) ?_
  rintro _ _ ⟨_, ⟨rfl, rfl⟩, rfl⟩
  refine WL_nil ?_
  refine WQ_code ?_
  refine WC_F rfl ?_
  refine WC_skip ?_
  refine WQ_code ?_
  refine WC_seq ?_
  refine WC_seq ?_
  refine WC_region ?_
  refine WL_val rfl rfl rfl (R_move rfl rfl) ?_
  refine WL_val rfl rfl rfl (R_nilCheck rfl rfl) ?_
  refine WL_val rfl rfl rfl (R_fieldAddr rfl fa74_0 rfl) ?_
  refine WL_val rfl rfl rfl (R_load rfl sc65 rfl (by repeat (first | exact List.Mem.head _ | refine List.Mem.tail _ ?_)) rfl) ?_
  refine WL_val rfl rfl rfl (R_move rfl rfl) ?_
  refine WL_do rfl rfl rfl (D_call (vadv_ok d.pc now to h1 h2) rfl rfl rfl rfl (by repeat (first | exact Pulls.nil | exact Pulls.all | (apply Pulls.cons; (repeat (first | exact Pull.head | apply Pull.tail))) | apply Pulls.skip))) ?_
  rintro _ _ ⟨_, ⟨rfl, rfl⟩, rfl⟩
  refine WL_val rfl rfl rfl (R_assign rfl rfl) ?_
  refine WL_nil ?_
  refine WQ_code ?_
  refine WC_seq ?_
  refine WC_region ?_
  refine WL_val rfl rfl rfl (R_move rfl rfl) ?_
  refine WL_val rfl rfl rfl (R_neq rfl rfl rfl) ?_
  refine WL_nil ?_
  refine WQ_code ?_
  refine WC_dF rfl (by simp) ?_
  refine WC_skip ?_
  refine WQ_code ?_
  refine WC_seq ?_
  refine WC_region ?_
  refine WL_val rfl rfl rfl (R_assign rfl rfl) ?_
  refine WL_nil ?_
  refine WQ_code ?_
  refine WC_seq ?_
  refine WC_seq ?_
  refine WC_region ?_
  refine WL_val rfl rfl rfl (R_move rfl rfl) ?_
  refine WL_val rfl rfl rfl (R_nilCheck rfl rfl) ?_
  refine WL_val rfl rfl rfl (R_fieldAddr rfl fa74_1 rfl) ?_
  refine WL_val rfl rfl rfl (R_load rfl sc66 rfl (by repeat (first | exact List.Mem.head _ | refine List.Mem.tail _ ?_)) rfl) ?_
  refine WL_val rfl rfl rfl (R_move rfl rfl) ?_
  refine WL_do rfl rfl rfl (D_call (mexp_e d.L d.m hd.t to h2) rfl rfl rfl rfl (by repeat (first | exact Pulls.nil | exact Pulls.all | (apply Pulls.cons; (repeat (first | exact Pull.head | apply Pull.tail))) | apply Pulls.skip))) ?_
  rintro _ _ ⟨_, ⟨xb, xc, xt, m', rfl, xown, rfl, hmp, hmn, hm'⟩, rfl⟩
  rw [← hmp]
  refine WL_val rfl rfl rfl (R_len rfl Try.underlying91 rfl) ?_
  refine WL_val rfl rfl rfl (R_move rfl rfl) ?_
  refine WL_nil ?_
  refine WQ_code ?_
  refine WC_block ?_
  refine WC_none 40 ?_
  refine WC_loopF (G := AvW) [7, 9, 10, 30, 31, 32, 33, 34, 35, 36, 37, 38, 39, 40, 41, 42, 43, 44, 45, 46, 47, 48, 49, 50, 51, 52, 53, 54, 55, 56, 57, 58, 59] (fun y => y.k ≤ (eL to d.L).2.length ∧ Clr d.S y.S ((eL to d.L).2.take y.k) ∧ y.o = ((eL to d.L).2.take y.k).map lpT ∧ Own y.ob y.o.length y.c 3 (y.o.flatMap encLp) y.tl) (fun y => [(30, .int .i64 (y.k : Int)), (7, slV y.ob y.o.length y.c)]) (fun y => [⟨some d.p, cl (dlV d.pc m'.pt y.S) 74⟩, ⟨y.ob, cl (y.o.flatMap encLp ++ y.tl) 40⟩]) (fun y => (eL to d.L).2.length - y.k) (⟨0, d.S, [], none, 0, []⟩) (⟨Nat.zero_le _, by rw [List.take_zero]; exact Clr.nil _, by simp, Own.empty 3⟩) (Le.lq (by repeat (first | exact Le.nil | refine Le.cons rfl (by first | rfl | (congr 1; omega)) ?_))) (by repeat (first | exact Pulls.nil | exact Pulls.all | (apply Pulls.cons; (repeat (first | exact Pull.head | apply Pull.tail))) | apply Pulls.skip)) ?_
  rintro y ⟨hyk, hyS, hyo, hyw⟩
  refine WC_seq ?_
  refine WC_region ?_
  refine WL_val rfl rfl rfl (R_lss rfl rfl rfl) ?_
  refine WL_nil ?_
  refine WQ_code ?_
  refine WC_seq ?_
  refine WC_dec rfl (fun c1 => ?_) (fun c1 => ?_)
  · refine WC_skip ?_
    refine WQ_code ?_
    refine WC_seq ?_
    refine WC_block ?_
    refine WC_seq ?_
    refine WC_region ?_
    obtain ⟨t, ht⟩ := exE (T := (eL to d.L).2) (i := y.k) (by omega)
    obtain ⟨ht1, ht2, ht3⟩ := hxm t (List.mem_of_getElem? ht)
    obtain ⟨i, hi, ho, htf, htn, htN, hlpi⟩ := hd.r.lpT ht1 ht2
    have hlp : lpT t = ⟨((i / 2 : Nat) : Int), ((i % 2 : Nat) : Int), t.tm⟩ := by unfold lpT; rw [ho, Int.toNat_natCast]
    obtain ⟨xbb, rfl⟩ := xown.some_of (by omega)
    obtain ⟨s', hs'⟩ : ∃ s', y.S[2 * (i / 2) + i % 2]? = some s' := ⟨_, List.getElem?_eq_getElem (by rw [hyS.len, hd.r.len]; omega)⟩
    have hol : y.o.length = y.k := by rw [hyo, List.length_map, List.length_take]; omega
    refine WL_val rfl rfl rfl (R_indexAddrN rfl Try.underlying91 Try.sizeOf94 rfl rfl (by omega)) ?_
    refine WL_val rfl rfl rfl (R_loadA (vs := encDu t) rfl ag94 rfl (by repeat (first | exact List.Mem.head _ | refine List.Mem.tail _ ?_)) rfl (fm_at0 encDu4 ht (j := 0) (vs := encDu t) (fun j v h => by rw [Nat.zero_add]; exact h) (Nat.le_refl 4))) ?_
    refine WL_do rfl rfl rfl (D_alloc rfl zv94) ?_
    rintro _ _ ⟨b1, rfl, rfl⟩
    refine WL_do0 rfl rfl (D_store (vs := [_, _, _, _]) rfl Try.sizeOf94 rfl rfl rfl rfl rfl (by repeat (first | exact Pull.head | apply Pull.tail)) (by exact Nat.le_of_ble_eq_true rfl)) ?_
    rintro _ _ rfl
    refine WL_nil ?_
    refine WQ_code ?_
    refine WC_seq ?_
    refine WC_region ?_
    refine WL_val rfl rfl rfl (R_fieldAddr rfl fa94_1 rfl) ?_
    refine WL_val rfl rfl rfl (R_load rfl sc3 rfl (by repeat (first | exact List.Mem.head _ | refine List.Mem.tail _ ?_)) rfl) ?_
    refine WL_val rfl rfl rfl (R_quoR (r := ((i / 2 : Nat) : Int)) rfl rfl rfl (by decide) (by rw [ho]; exact quoI (b := 2) (by omega) (by omega))) ?_
    refine WL_val rfl rfl rfl (R_fieldAddr rfl fa94_1 rfl) ?_
    refine WL_val rfl rfl rfl (R_load rfl sc3 rfl (by repeat (first | exact List.Mem.head _ | refine List.Mem.tail _ ?_)) rfl) ?_
    refine WL_val rfl rfl rfl (R_remR (r := ((i % 2 : Nat) : Int)) rfl rfl rfl (by decide) (by rw [ho]; exact remN (b := 2))) ?_
    refine WL_val rfl rfl rfl (R_buildArr rfl Try.underlying96 Try.sizeOf3 zv96 rfl rfl) ?_
    refine WL_do rfl rfl rfl (D_alloc rfl zv96) ?_
    rintro _ _ ⟨b2, rfl, rfl⟩
    refine WL_do0 rfl rfl (D_store (vs := [_, _]) rfl Try.sizeOf96 rfl rfl rfl rfl rfl (by repeat (first | exact Pull.head | apply Pull.tail)) (by exact Nat.le_of_ble_eq_true rfl)) ?_
    rintro _ _ rfl
    refine WL_nil ?_
    refine WQ_code ?_
    refine WC_seq ?_
    refine WC_drawR [⟨some d.p, _⟩] [(0, true), (1, true), (2, true), (3, true), (4, true), (5, true), (6, true), (7, true), (8, true), (9, true), (10, false)] followsMixed rfl rfl (by kernel_rfl) (by repeat (first | exact Pulls.nil | exact Pulls.all | (apply Pulls.cons; (repeat (first | exact Pull.head | apply Pull.tail))) | apply Pulls.skip)) ?_
    refine WM_val rfl rfl rfl rfl (R_move rfl rfl) ?_
    refine WM_val rfl rfl rfl rfl (R_indexAddrA rfl Try.underlying96 Try.sizeOf3 rfl rfl (by omega)) ?_
    refine WM_val rfl rfl rfl rfl (R_load rfl sc3 rfl (by repeat (first | exact List.Mem.head _ | refine List.Mem.tail _ ?_)) rfl) ?_
    refine WM_val rfl rfl rfl rfl (R_indexAddrA rfl Try.underlying96 Try.sizeOf3 rfl rfl (by omega)) ?_
    refine WM_val rfl rfl rfl rfl (R_load rfl sc3 rfl (by repeat (first | exact List.Mem.head _ | refine List.Mem.tail _ ?_)) rfl) ?_
    refine WM_val rfl rfl rfl rfl (R_nilCheck rfl rfl) ?_
    refine WM_val rfl rfl rfl rfl (R_fieldAddr rfl fa74_2 rfl) ?_
    refine WM_val rfl rfl rfl rfl (R_indexAddrAN rfl Try.underlying72 Try.sizeOf71 rfl rfl (by omega)) ?_
    refine WM_val rfl rfl rfl rfl (R_indexAddrAN rfl Try.underlying71 Try.sizeOf70 rfl rfl (by omega)) ?_
    refine WM_val rfl rfl rfl rfl (R_fieldAddr rfl fa70_1 rfl) ?_
    refine WM_do0 rfl rfl rfl (D_store (vs := [_]) rfl Try.sizeOf4 rfl rfl rfl rfl rfl (by repeat (first | exact Pull.head | apply Pull.tail)) (by exact dl_room (by rw [hyS.len, hd.r.len]; omega) (by omega))) ?_
    rintro _ _ rfl
    refine ⟨⟨_, by repeat (first | exact Pulls.nil | exact Pulls.all | (apply Pulls.cons; (repeat (first | exact Pull.head | apply Pull.tail))) | apply Pulls.skip)⟩, ?_⟩
    have hput := dl_put (pc := d.pc) (pt := m'.pt) { s' with set := false } hs' (j := 1) (vs := [.bool false]) (by simp) (by simp [putAt_cons, putAt_nil])
    rw [hput]
    refine WM_nil ?_
    refine WQ_code ?_
    refine WC_drawR [⟨(y.ob), _⟩] [(0, true), (1, true), (2, true), (3, true), (4, true), (5, true), (6, false), (7, false), (8, true)] followsMixed rfl rfl (by kernel_rfl) (by repeat (first | exact Pulls.nil | exact Pulls.all | (apply Pulls.cons; (repeat (first | exact Pull.head | apply Pull.tail))) | apply Pulls.skip)) ?_
    refine WM_val rfl rfl rfl rfl (R_move rfl rfl) ?_
    refine WM_val rfl rfl rfl rfl (R_loadA (vs := [_, _]) rfl ag96 rfl (by repeat (first | exact List.Mem.head _ | refine List.Mem.tail _ ?_)) rfl (by repeat (first | exact At.nil | refine At.cons ?_ | refine At.succ ?_))) ?_
    refine WM_call rfl (Spec.quiet (pspot_ok _ _)) rfl rfl rfl rfl rfl rfl rfl (by repeat (first | exact Pulls.nil | exact Pulls.all | (apply Pulls.cons; (repeat (first | exact Pull.head | apply Pull.tail))) | apply Pulls.skip)) ?_
    refine WM_val rfl rfl rfl rfl (R_fieldAddr rfl fa94_2 rfl) ?_
    refine WM_val rfl rfl rfl rfl (R_load rfl sc26 rfl (by repeat (first | exact List.Mem.head _ | refine List.Mem.tail _ ?_)) rfl) ?_
    refine WM_val rfl rfl rfl rfl (R_build rfl zv40 pl40 rfl rfl) ?_
    refine WM_do rfl rfl rfl rfl (D_buildSlice rfl si42 rfl rfl rfl) ?_
    rintro _ _ ⟨b3, rfl, rfl⟩
    refine ⟨⟨_, by repeat (first | exact Pulls.nil | exact Pulls.all | (apply Pulls.cons; (repeat (first | exact Pull.head | apply Pull.tail))) | apply Pulls.skip)⟩, ?_⟩
    refine WM_do rfl rfl rfl rfl (D_append rfl si42 rfl (hyw) (by repeat (first | exact Pull.head | apply Pull.tail)) rfl (by repeat (first | exact List.Mem.head _ | refine List.Mem.tail _ ?_)) ((by repeat (first | exact At.nil | refine At.cons ?_ | refine At.succ ?_) : At _ 0 [_, _, _])) (rfl) (rfl) (by omega) (by omega)) ?_
    rintro _ _ ⟨ob4, cap4, tl4, rfl, own4, rfl⟩
    refine ⟨⟨_, by repeat (first | exact Pulls.nil | exact Pulls.all | (apply Pulls.cons; (repeat (first | exact Pull.head | apply Pull.tail))) | apply Pulls.skip)⟩, ?_⟩
    rw [show y.o.flatMap encLp ++ [Value.int .i64 ((i / 2 : Nat) : Int), .int .i64 ((i % 2 : Nat) : Int), .int .u64 (t.tm : Int)] = (y.o ++ [lpT t]).flatMap encLp from by rw [List.flatMap_append, hlp]; rfl, show y.o.length + 1 = (y.o ++ [lpT t]).length from by rw [List.length_append]; rfl] at *
    refine WM_val rfl rfl rfl rfl (R_assign rfl rfl) ?_
    refine WM_nil ?_
    refine WQ_code ?_
    refine WC_region ?_
    refine WL_val rfl rfl rfl (R_add rfl rfl rfl (by omega)) ?_
    refine WL_val rfl rfl rfl (R_move rfl rfl) ?_
    refine WL_nil ?_
    refine WQ_nextF (⟨y.k + 1, y.S.set (2 * (i / 2) + i % 2) { s' with set := false }, y.o ++ [lpT t], ob4, cap4, tl4⟩) (⟨by dsimp only; omega, by dsimp only; rw [tk_next ht]; exact hyS.snoc (by rw [ho]; omega) hs', by dsimp only; rw [tk_next ht, List.map_append, hyo]; rfl, own4⟩) (by dsimp only; omega) (Le.lq (by repeat (first | exact Le.nil | refine Le.cons rfl (by first | rfl | (congr 1; omega)) ?_))) (by repeat (first | exact Pushed.refl | refine Pushed.push rfl ?_)) rfl (by repeat (first | exact Pulls.nil | exact Pulls.all | (apply Pulls.cons; (repeat (first | exact Pull.head | apply Pull.tail))) | apply Pulls.skip))
  · have hk : y.k = (eL to d.L).2.length := by omega
    have hoX : y.o = (eL to d.L).2.map lpT := by rw [hyo, hk, List.take_length]
    have hSX : Clr d.S y.S (eL to d.L).2 := by have h9 := hyS; rw [hk, List.take_length] at h9; exact h9
    have hol : y.o.length ≤ 1024 := by rw [hoX, List.length_map]; omega
    refine WC_exit ?_
    refine WQ_code ?_
    refine WC_seq ?_
    refine WC_region ?_
    refine WL_do rfl rfl rfl (D_alloc rfl zv98) ?_
    rintro _ _ ⟨b5, rfl, rfl⟩
    refine WL_do0 rfl rfl (D_store (vs := [_]) rfl Try.sizeOf98 rfl rfl rfl rfl rfl (by repeat (first | exact Pull.head | apply Pull.tail)) (by exact Nat.le_of_ble_eq_true rfl)) ?_
    rintro _ _ rfl
    refine WL_nil ?_
    refine WQ_code ?_
    refine WC_seq ?_
    refine WC_region ?_
    refine WL_val rfl rfl rfl (R_move rfl rfl) ?_
    refine WL_val rfl rfl rfl (R_makeFunc rfl rfl rfl) ?_
    refine WL_do rfl rfl rfl (D_call (dsort_ok y.o (by omega) y.ob y.c y.tl hyw b5) rfl rfl rfl rfl (by repeat (first | exact Pulls.nil | exact Pulls.all | (apply Pulls.cons; (repeat (first | exact Pull.head | apply Pull.tail))) | apply Pulls.skip))) ?_
    rintro _ _ ⟨_, ⟨l2, rfl, hperm, hsort, rfl⟩, rfl⟩
    rw [← hperm.length_eq] at *
    refine WL_nil ?_
    refine WQ_code ?_
    refine WC_seq ?_
    refine WC_region ?_
    refine WL_val rfl rfl rfl (R_move rfl rfl) ?_
    refine WL_val rfl rfl rfl (R_assign rfl rfl) ?_
    refine WL_val rfl rfl rfl (R_assign rfl rfl) ?_
    refine WL_nil ?_
    refine WQ_code ?_
    refine WC_ret ?_
    refine WQ_ret rfl rfl (.cons (.tmp rfl) (.cons (.tmp rfl) .nil)) rfl (by
        exact ⟨l2, y.ob, y.c, y.tl, ⟨d.p, d.pc, (eL to d.L).1, y.S, m'⟩, rfl, hyw.like (by rw [fm_length encLp3, fm_length encLp3, hperm.length_eq]), hd.r.laps hd.t.r h2 (hoX ▸ hperm) hsort, by omega, rfl, rfl, hmn, ⟨hd.r.adv hd.t.r h1 h2 hSX, hm'⟩⟩) (by repeat (first | exact Pulls.nil | exact Pulls.all | (apply Pulls.cons; (repeat (first | exact Pull.head | apply Pull.tail))) | apply Pulls.skip))
end

end Go.Proofs.Ytnkpefonocggfaa
