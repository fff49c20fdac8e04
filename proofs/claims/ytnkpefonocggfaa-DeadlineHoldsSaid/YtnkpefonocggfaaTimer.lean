/-
  Chapter 10 (deadline), part Timer: contracts of functions that the laws call, each for the heap it names.
-/
import Derived.Test.YtnkpefonocggfaaRows
import Derived.Test.YtnkpefonocggfaaSLPhase
import Derived.Test.YtnkpefonocggfaaSLInt
import Derived.Test.YtnkpefonocggfaaTab
import Derived.Test.YtnkpefonocggfaaTimerL
import Derived.Test.YtnkpefonocggfaaSLMore
set_option linter.unusedVariables false
set_option maxRecDepth 20000
set_option maxHeartbeats 2000000
namespace Go.Proofs.Ytnkpefonocggfaa


/-- Timers in memory. -/
structure TmM where
  pt : Nat
  g : HM
  og : Option Nat
  ng : Nat
  cg : Nat
  tg : List Value
  gv : List Nat
abbrev tmH (m : TmM) : Heap := ⟨some m.pt, cl [ptrH m.g.p, slV m.og m.ng m.cg] 118⟩ :: ⟨m.og, cl (ivn m.gv ++ m.tg) 3⟩ :: gH m.g
structure TIs (L : List Tm) (m : TmM) : Prop where
  h : HIs (wl L) m.g
  r : TRel L m.gv m.g.n
  ng : m.gv.length = m.ng
  own : Own m.og m.ng m.cg 1 (ivn m.gv) m.tg
  gl : m.ng ≤ 1024
theorem IsFree.le {W : List WE} {f : Nat} (h : IsFree W f) : f ≤ W.length := by
  have : (List.range f).length ≤ (hds W).length := List.Nodup.length_le_of_subset List.nodup_range fun j hj => by
    obtain ⟨w, hw, e⟩ := h.below j (List.mem_range.1 hj)
    exact List.mem_map.2 ⟨w, hw, e⟩
  rw [List.length_range, List.length_map] at this; exact this
theorem TIs.nb {L : List Tm} {m : TmM} (h : TIs L m) : m.g.n < 9000000000000000000 := h.h.hp.nb
theorem mzero_ok (pt p : Nat) (x : Value) : Spec Try.prog 56 [ptrH pt] [⟨some pt, cl [ptrH p, x] 118⟩] (fun r H' => r = .bool false ∧ H' = [⟨some pt, cl [ptrH p, x] 118⟩]) := by
  refine Spec.of (E := [(0, ptrH pt)]) Try.func56 rfl (by kernel_rfl) Try.ntmps56 rfl rfl (fun w => ?_)
  refine WC_seq ?_
  refine WC_region ?_
  refine WL_val rfl rfl rfl (R_assign rfl rfl) ?_
  refine WL_nil ?_
  refine WQ_code ?_
  refine WC_seq ?_
  refine WC_region ?_
  refine WL_val rfl rfl rfl (R_move rfl rfl) ?_
  refine WL_val rfl rfl rfl (R_ptrEqNil rfl Try.underlying66 rfl) ?_
  refine WL_val rfl rfl rfl (R_move rfl rfl) ?_
  refine WL_val rfl rfl rfl (R_move rfl rfl) ?_
  refine WL_val rfl rfl rfl (R_nilCheck rfl rfl) ?_
  refine WL_val rfl rfl rfl (R_fieldAddr rfl fa118_0 rfl) ?_
  refine WL_val rfl rfl rfl (R_load rfl sc114 rfl (by repeat (first | exact List.Mem.head _ | refine List.Mem.tail _ ?_)) rfl) ?_
  refine WL_val rfl rfl rfl (R_ptrEqNil rfl Try.underlying114 rfl) ?_
  refine WL_val rfl rfl rfl (R_pickF rfl rfl rfl) ?_
  refine WL_val rfl rfl rfl (R_assign rfl rfl) ?_
  refine WL_nil ?_
  refine WQ_code ?_
  refine WC_ret ?_
  refine WQ_ret rfl rfl (.cons (.tmp rfl) .nil) rfl (by
      exact ⟨rfl, rfl⟩) (by repeat (first | exact Pulls.nil | exact Pulls.all | (apply Pulls.cons; (repeat (first | exact Pull.head | apply Pull.tail))) | apply Pulls.skip))
theorem mzero_nil : Spec Try.prog 56 [.pointer none] [] (fun r H' => r = .bool true ∧ H' = []) := by
  refine Spec.of (E := [(0, .pointer none)]) Try.func56 rfl (by kernel_rfl) Try.ntmps56 rfl rfl (fun w => ?_)
  refine WC_seq ?_
  refine WC_region ?_
  refine WL_val rfl rfl rfl (R_assign rfl rfl) ?_
  refine WL_nil ?_
  refine WQ_code ?_
  refine WC_seq ?_
  refine WC_region ?_
  refine WL_val rfl rfl rfl (R_move rfl rfl) ?_
  refine WL_val rfl rfl rfl (R_ptrEqNil rfl Try.underlying66 rfl) ?_
  refine WL_val rfl rfl rfl (R_move rfl rfl) ?_
  refine WL_skip rfl rfl rfl ?_
  refine WL_skip rfl rfl rfl ?_
  refine WL_skip rfl rfl rfl ?_
  refine WL_skip rfl rfl rfl ?_
  refine WL_skip rfl rfl rfl ?_
  refine WL_val rfl rfl rfl (R_pickT rfl rfl rfl) ?_
  refine WL_val rfl rfl rfl (R_assign rfl rfl) ?_
  refine WL_nil ?_
  refine WQ_code ?_
  refine WC_ret ?_
  refine WQ_ret rfl rfl (.cons (.tmp rfl) .nil) rfl (by
      exact ⟨rfl, rfl⟩) (by repeat (first | exact Pulls.nil | exact Pulls.all | (apply Pulls.cons; (repeat (first | exact Pull.head | apply Pull.tail))) | apply Pulls.skip))
theorem mzero_zero (pt : Nat) (x : Value) : Spec Try.prog 56 [ptrH pt] [⟨some pt, cl [.pointer none, x] 118⟩] (fun r H' => r = .bool true ∧ H' = [⟨some pt, cl [.pointer none, x] 118⟩]) := by
  refine Spec.of (E := [(0, ptrH pt)]) Try.func56 rfl (by kernel_rfl) Try.ntmps56 rfl rfl (fun w => ?_)
  refine WC_seq ?_
  refine WC_region ?_
  refine WL_val rfl rfl rfl (R_assign rfl rfl) ?_
  refine WL_nil ?_
  refine WQ_code ?_
  refine WC_seq ?_
  refine WC_region ?_
  refine WL_val rfl rfl rfl (R_move rfl rfl) ?_
  refine WL_val rfl rfl rfl (R_ptrEqNil rfl Try.underlying66 rfl) ?_
  refine WL_val rfl rfl rfl (R_move rfl rfl) ?_
  refine WL_val rfl rfl rfl (R_move rfl rfl) ?_
  refine WL_val rfl rfl rfl (R_nilCheck rfl rfl) ?_
  refine WL_val rfl rfl rfl (R_fieldAddr rfl fa118_0 rfl) ?_
  refine WL_val rfl rfl rfl (R_load rfl sc114 rfl (by repeat (first | exact List.Mem.head _ | refine List.Mem.tail _ ?_)) rfl) ?_
  refine WL_val rfl rfl rfl (R_ptrEqNil rfl Try.underlying114 rfl) ?_
  refine WL_val rfl rfl rfl (R_pickF rfl rfl rfl) ?_
  refine WL_val rfl rfl rfl (R_assign rfl rfl) ?_
  refine WL_nil ?_
  refine WQ_code ?_
  refine WC_ret ?_
  refine WQ_ret rfl rfl (.cons (.tmp rfl) .nil) rfl (by
      exact ⟨rfl, rfl⟩) (by repeat (first | exact Pulls.nil | exact Pulls.all | (apply Pulls.cons; (repeat (first | exact Pull.head | apply Pull.tail))) | apply Pulls.skip))
theorem mnew_ok : Spec Try.prog 29 [] [] (fun r H' => ∃ m : TmM, r = ptrH m.pt ∧ H' = tmH m ∧ TIs [] m ∧ m.g.n = 0) := by
  refine Spec.of (E := []) Try.func29 rfl (by kernel_rfl) Try.ntmps29 rfl rfl (fun w => ?_)
  refine WC_seq ?_
  refine WC_region ?_
  refine WL_val rfl rfl rfl (R_assign rfl rfl) ?_
  refine WL_nil ?_
  refine WQ_code ?_
  refine WC_seq ?_
  refine WC_region ?_
  refine WL_do rfl rfl rfl (D_call (hnew_ok) rfl rfl rfl rfl (by repeat (first | exact Pulls.nil | exact Pulls.all | (apply Pulls.cons; (repeat (first | exact Pull.head | apply Pull.tail))) | apply Pulls.skip))) ?_
  rintro _ _ ⟨_, ⟨g, rfl, rfl, hg, hgn⟩, rfl⟩
  refine WL_val rfl rfl rfl (R_build rfl zv118 pl118 rfl rfl) ?_
  refine WL_do rfl rfl rfl (D_box (cs := [_, _]) rfl rfl rfl) ?_
  rintro _ _ ⟨b1, rfl, rfl⟩
  refine WL_val rfl rfl rfl (R_assign rfl rfl) ?_
  refine WL_nil ?_
  refine WQ_code ?_
  refine WC_ret ?_
  refine WQ_none 3 ?_
  refine WQ_ret rfl rfl (.cons (.tmp rfl) .nil) rfl (by
      exact ⟨⟨_, g, none, 0, 0, [], []⟩, rfl, rfl, ⟨hg, by (show TRel [] [] g.n); rw [hgn]; exact trel_new, rfl, Own.empty 1, Nat.zero_le _⟩, hgn⟩) (by repeat (first | exact Pulls.nil | exact Pulls.all | (apply Pulls.cons; (repeat (first | exact Pull.head | apply Pull.tail))) | apply Pulls.skip))
theorem mhas_no (L : List Tm) (m : TmM) (ht : TIs L m) (N G : Int) (h : ∀ t ∈ L, t.gone = false → (t.n : Int) ≠ N) : Spec Try.prog 59 [ptrH m.pt, .agg #[.int .i64 N, .int .i64 G]] (tmH m) (fun r H' => r = .bool false ∧ H' = tmH m) := by
  have hno : ∀ w ∈ wl L, (w.h : Int) ≠ N := fun w hw => by
    obtain ⟨t, h1, h2, rfl⟩ := mem_wl.1 hw
    exact h t h1 h2
  refine Spec.of (E := [(0, ptrH m.pt), (1, .agg #[.int .i64 N, .int .i64 G])]) Try.func59 rfl (by kernel_rfl) Try.ntmps59 rfl rfl (fun w => ?_)
  refine WC_seq ?_
  refine WC_region ?_
  refine WL_do rfl rfl rfl (D_box (cs := [_, _]) rfl rfl rfl) ?_
  rintro _ _ ⟨b1, rfl, rfl⟩
  refine WL_val rfl rfl rfl (R_assign rfl rfl) ?_
  refine WL_nil ?_
  refine WQ_code ?_
  refine WC_seq ?_
  refine WC_draw _ [(0, true), (1, true), (2, true), (3, true), (4, true), (5, true), (6, false), (7, true), (8, true), (9, true), (10, true), (11, true), (12, true), (13, true)] followsMixed rfl rfl (by kernel_rfl) .all ?_
  refine WM_val rfl rfl rfl rfl (R_move rfl rfl) ?_
  refine WM_val rfl rfl rfl rfl (R_nilCheck rfl rfl) ?_
  refine WM_val rfl rfl rfl rfl (R_fieldAddr rfl fa118_0 rfl) ?_
  refine WM_val rfl rfl rfl rfl (R_load rfl sc114 rfl (by repeat (first | exact List.Mem.head _ | refine List.Mem.tail _ ?_)) rfl) ?_
  refine WM_val rfl rfl rfl rfl (R_fieldAddr rfl fa68_0 rfl) ?_
  refine WM_val rfl rfl rfl rfl (R_load rfl sc3 rfl (by repeat (first | exact List.Mem.head _ | refine List.Mem.tail _ ?_)) rfl) ?_
  refine WM_do rfl rfl rfl rfl (D_call (hget_no m.g (wl L) ht.h N hno) rfl rfl rfl rfl (by repeat (first | exact Pulls.nil | exact Pulls.all | (apply Pulls.cons; (repeat (first | exact Pull.head | apply Pull.tail))) | apply Pulls.skip))) ?_
  rintro _ _ ⟨_, ⟨rfl, rfl⟩, rfl⟩
  refine ⟨⟨_, by repeat (first | exact Pulls.nil | exact Pulls.all | (apply Pulls.cons; (repeat (first | exact Pull.head | apply Pull.tail))) | apply Pulls.skip)⟩, ?_⟩
  refine WM_val rfl rfl rfl rfl (R_move rfl rfl) ?_
  refine WM_val rfl rfl rfl rfl (R_extract rfl rfl rfl) ?_
  refine WM_val rfl rfl rfl rfl (R_extract rfl rfl rfl) ?_
  refine WM_val rfl rfl rfl rfl (R_extract rfl rfl rfl) ?_
  refine WM_val rfl rfl rfl rfl (R_assign rfl rfl) ?_
  refine WM_val rfl rfl rfl rfl (R_assign rfl rfl) ?_
  refine WM_val rfl rfl rfl rfl (R_assign rfl rfl) ?_
  refine WM_nil ?_
  refine WQ_code ?_
  refine WC_seq ?_
  refine WC_draw _ [(0, true), (1, true), (2, true), (3, true), (4, true), (5, true), (6, true), (7, true), (8, true), (9, true), (10, true), (11, true), (12, true), (13, true), (14, true), (15, true), (16, true)] followsMixed rfl rfl (by kernel_rfl) .all ?_
  refine WM_val rfl rfl rfl rfl (R_move rfl rfl) ?_
  refine WM_val rfl rfl rfl rfl (R_eql rfl rfl rfl) ?_
  refine WM_set (s := 20) (v := .bool false) rfl (by simp) ?_
  refine WM_val rfl rfl rfl rfl (R_move rfl rfl) ?_
  refine WM_skip rfl rfl rfl rfl ?_
  refine WM_skip rfl rfl rfl rfl ?_
  refine WM_skip rfl rfl rfl rfl ?_
  refine WM_skip rfl rfl rfl rfl ?_
  refine WM_skip rfl rfl rfl rfl ?_
  refine WM_skip rfl rfl rfl rfl ?_
  refine WM_skip rfl rfl rfl rfl ?_
  refine WM_skip rfl rfl rfl rfl ?_
  refine WM_skip rfl rfl rfl rfl ?_
  refine WM_skip rfl rfl rfl rfl ?_
  refine WM_skip rfl rfl rfl rfl ?_
  refine WM_skip rfl rfl rfl rfl ?_
  refine WM_val rfl rfl rfl rfl (R_pickF rfl rfl rfl) ?_
  refine WM_val rfl rfl rfl rfl (R_assign rfl rfl) ?_
  refine WM_nil ?_
  refine WQ_code ?_
  refine WC_ret ?_
  refine WQ_ret rfl rfl (.cons (.tmp rfl) .nil) rfl (by
      exact ⟨rfl, rfl⟩) (by repeat (first | exact Pulls.nil | exact Pulls.all | (apply Pulls.cons; (repeat (first | exact Pull.head | apply Pull.tail))) | apply Pulls.skip))
theorem mhas_yes (L : List Tm) (m : TmM) (ht : TIs L m) (t : Tm) (hm : t ∈ L) (hg : t.gone = false) (G : Int) (hG : -9223372036854775808 ≤ G ∧ G ≤ 9223372036854775807) : Spec Try.prog 59 [ptrH m.pt, .agg #[.int .i64 (t.n : Int), .int .i64 G]] (tmH m) (fun r H' => r = .bool (decide (G = (t.gen : Int))) ∧ H' = tmH m) := by
  have hw : toW t ∈ wl L := mem_wl.2 ⟨t, hm, hg, rfl⟩
  have htl := ht.r.len hm
  have hgn := ht.r.get htl
  have hla := ht.r.last t hm hg
  have hcl := cnt_le L t.n
  have hln := ht.r.ln
  have hnb := ht.nb
  have hng := ht.ng
  obtain ⟨bg, hbg⟩ := ht.own.some_of (by omega)
  refine Spec.of (E := [(0, ptrH m.pt), (1, .agg #[.int .i64 (t.n : Int), .int .i64 G])]) Try.func59 rfl (by kernel_rfl) Try.ntmps59 rfl rfl (fun w => ?_)
  refine WC_seq ?_
  refine WC_region ?_
  refine WL_do rfl rfl rfl (D_box (cs := [_, _]) rfl rfl rfl) ?_
  rintro _ _ ⟨b1, rfl, rfl⟩
  refine WL_val rfl rfl rfl (R_assign rfl rfl) ?_
  refine WL_nil ?_
  refine WQ_code ?_
  refine WC_seq ?_
  refine WC_draw _ [(0, true), (1, true), (2, true), (3, true), (4, true), (5, true), (6, false), (7, true), (8, true), (9, true), (10, true), (11, true), (12, true), (13, true)] followsMixed rfl rfl (by kernel_rfl) .all ?_
  refine WM_val rfl rfl rfl rfl (R_move rfl rfl) ?_
  refine WM_val rfl rfl rfl rfl (R_nilCheck rfl rfl) ?_
  refine WM_val rfl rfl rfl rfl (R_fieldAddr rfl fa118_0 rfl) ?_
  refine WM_val rfl rfl rfl rfl (R_load rfl sc114 rfl (by repeat (first | exact List.Mem.head _ | refine List.Mem.tail _ ?_)) rfl) ?_
  refine WM_val rfl rfl rfl rfl (R_fieldAddr rfl fa68_0 rfl) ?_
  refine WM_val rfl rfl rfl rfl (R_load rfl sc3 rfl (by repeat (first | exact List.Mem.head _ | refine List.Mem.tail _ ?_)) rfl) ?_
  refine WM_do rfl rfl rfl rfl (D_call (hget_w m.g (wl L) ht.h (toW t) hw) rfl rfl rfl rfl (by repeat (first | exact Pulls.nil | exact Pulls.all | (apply Pulls.cons; (repeat (first | exact Pull.head | apply Pull.tail))) | apply Pulls.skip))) ?_
  rintro _ _ ⟨_, ⟨rfl, rfl⟩, rfl⟩
  refine ⟨⟨_, by repeat (first | exact Pulls.nil | exact Pulls.all | (apply Pulls.cons; (repeat (first | exact Pull.head | apply Pull.tail))) | apply Pulls.skip)⟩, ?_⟩
  refine WM_val rfl rfl rfl rfl (R_move rfl rfl) ?_
  refine WM_val rfl rfl rfl rfl (R_extract rfl rfl rfl) ?_
  refine WM_val rfl rfl rfl rfl (R_extract rfl rfl rfl) ?_
  refine WM_val rfl rfl rfl rfl (R_extract rfl rfl rfl) ?_
  refine WM_val rfl rfl rfl rfl (R_assign rfl rfl) ?_
  refine WM_val rfl rfl rfl rfl (R_assign rfl rfl) ?_
  refine WM_val rfl rfl rfl rfl (R_assign rfl rfl) ?_
  refine WM_nil ?_
  refine WQ_code ?_
  refine WC_seq ?_
  refine WC_draw _ [(0, true), (1, true), (2, true), (3, true), (4, true), (5, true), (6, true), (7, true), (8, true), (9, true), (10, true), (11, true), (12, true), (13, true), (14, true), (15, true), (16, true)] followsMixed rfl rfl (by kernel_rfl) .all ?_
  refine WM_val rfl rfl rfl rfl (R_move rfl rfl) ?_
  refine WM_val rfl rfl rfl rfl (R_eql rfl rfl rfl) ?_
  refine WM_set (s := 20) (v := .bool true) rfl (by simp) ?_
  refine WM_val rfl rfl rfl rfl (R_move rfl rfl) ?_
  rw [hbg]
  refine WM_val rfl rfl rfl rfl (R_move rfl rfl) ?_
  refine WM_val rfl rfl rfl rfl (R_nilCheck rfl rfl) ?_
  refine WM_val rfl rfl rfl rfl (R_fieldAddr rfl fa118_1 rfl) ?_
  refine WM_val rfl rfl rfl rfl (R_load rfl sc116 rfl (by repeat (first | exact List.Mem.head _ | refine List.Mem.tail _ ?_)) rfl) ?_
  refine WM_val rfl rfl rfl rfl (R_fieldAddr rfl fa68_0 rfl) ?_
  refine WM_val rfl rfl rfl rfl (R_load rfl sc3 rfl (by repeat (first | exact List.Mem.head _ | refine List.Mem.tail _ ?_)) rfl) ?_
  refine WM_val rfl rfl rfl rfl (R_indexAddrN rfl Try.underlying116 Try.sizeOf3 rfl rfl (by omega)) ?_
  refine WM_val rfl rfl rfl rfl (R_load (v := .int .i64 ((cnt L t.n : Nat) : Int)) rfl sc3 rfl (by repeat (first | exact List.Mem.head _ | refine List.Mem.tail _ ?_)) (fm_get0 encN1 hgn (j := 0) (by omega))) ?_
  refine WM_val rfl rfl rfl rfl (R_fieldAddr rfl fa68_1 rfl) ?_
  refine WM_val rfl rfl rfl rfl (R_load rfl sc3 rfl (by repeat (first | exact List.Mem.head _ | refine List.Mem.tail _ ?_)) rfl) ?_
  refine WM_val rfl rfl rfl rfl (R_addW rfl rfl rfl) ?_
  refine WM_val rfl rfl rfl rfl (R_eql rfl rfl rfl) ?_
  refine WM_val rfl rfl rfl rfl (R_pickT rfl rfl rfl) ?_
  refine WM_val rfl rfl rfl rfl (R_assign rfl rfl) ?_
  refine WM_nil ?_
  refine WQ_code ?_
  refine WC_ret ?_
  rw [← hbg]
  refine WQ_ret rfl rfl (.cons (.tmp rfl) .nil) rfl (by
      exact ⟨congrArg Value.bool (by rw [decide_eq_decide, IntKind.wrap_i64]; omega), rfl⟩) (by repeat (first | exact Pulls.nil | exact Pulls.all | (apply Pulls.cons; (repeat (first | exact Pull.head | apply Pull.tail))) | apply Pulls.skip))
theorem mhas_ok (L : List Tm) (m : TmM) (ht : TIs L m) (N G : Int) (hG : -9223372036854775808 ≤ G ∧ G ≤ 9223372036854775807) (d : Bool) (hd : d = true ↔ ∃ t ∈ L, t.gone = false ∧ (t.n : Int) = N ∧ (t.gen : Int) = G) : Spec Try.prog 59 [ptrH m.pt, .agg #[.int .i64 N, .int .i64 G]] (tmH m) (fun r H' => r = .bool d ∧ H' = tmH m) := by
  by_cases h : ∃ t ∈ L, t.gone = false ∧ (t.n : Int) = N
  · obtain ⟨t, h1, h2, rfl⟩ := h
    refine (mhas_yes L m ht t h1 h2 G hG).mono fun r H' ⟨e1, e2⟩ => ⟨?_, e2⟩
    rw [e1, Value.bool.injEq, Bool.eq_iff_iff, decide_eq_true_iff, hd]
    constructor
    · intro e; exact ⟨t, h1, h2, rfl, e.symm⟩
    · rintro ⟨u, h3, h4, h5, h6⟩
      obtain ⟨i, hi⟩ := List.getElem?_of_mem h1
      obtain ⟨j, hj⟩ := List.getElem?_of_mem h3
      have e := ht.r.liveN hi hj h2 h4 (by omega)
      subst e
      rw [hi] at hj
      have := Option.some.inj hj
      subst this
      exact h6.symm
  · refine (mhas_no L m ht N G fun t h1 h2 h3 => h ⟨t, h1, h2, h3⟩).mono fun r H' ⟨e1, e2⟩ => ⟨?_, e2⟩
    rw [e1]
    cases d with
    | false => rfl
    | true =>
      obtain ⟨t, h1, h2, h3, _⟩ := hd.1 rfl
      exact absurd ⟨t, h1, h2, h3⟩ h
theorem mstop_no (L : List Tm) (m : TmM) (ht : TIs L m) (N G : Int) (hG : -9223372036854775808 ≤ G ∧ G ≤ 9223372036854775807) (h : ¬ ∃ t ∈ L, t.gone = false ∧ (t.n : Int) = N ∧ (t.gen : Int) = G) : Spec Try.prog 33 [ptrH m.pt, .agg #[.int .i64 N, .int .i64 G]] (tmH m) (fun r H' => r = .int .i64 9 ∧ H' = tmH m) := by
  refine Spec.of (E := [(0, ptrH m.pt), (1, .agg #[.int .i64 N, .int .i64 G])]) Try.func33 rfl (by kernel_rfl) Try.ntmps33 rfl rfl (fun w => ?_)
  refine WC_seq ?_
  refine WC_region ?_
  refine WL_do rfl rfl rfl (D_box (cs := [_, _]) rfl rfl rfl) ?_
  rintro _ _ ⟨b1, rfl, rfl⟩
  refine WL_val rfl rfl rfl (R_assign rfl rfl) ?_
  refine WL_nil ?_
  refine WQ_code ?_
  refine WC_seq ?_
  refine WC_block ?_
  refine WC_seq ?_
  refine WC_region ?_
  refine WL_val rfl rfl rfl (R_move rfl rfl) ?_
  refine WL_do rfl rfl rfl (D_call (mzero_ok m.pt m.g.p _) rfl rfl rfl rfl (by repeat (first | exact Pulls.nil | exact Pulls.all | (apply Pulls.cons; (repeat (first | exact Pull.head | apply Pull.tail))) | apply Pulls.skip))) ?_
  rintro _ _ ⟨_, ⟨rfl, rfl⟩, rfl⟩
  refine WL_val rfl rfl rfl (R_assign rfl rfl) ?_
  refine WL_nil ?_
  refine WQ_code ?_
  refine WC_F rfl ?_
  refine WC_seq ?_
  refine WC_region ?_
  refine WL_val rfl rfl rfl (R_move rfl rfl) ?_
  refine WL_val rfl rfl rfl (R_loadA (vs := [_, _]) rfl ag68 rfl (by repeat (first | exact List.Mem.head _ | refine List.Mem.tail _ ?_)) rfl (by repeat (first | exact At.nil | refine At.cons ?_ | refine At.succ ?_))) ?_
  refine WL_do rfl rfl rfl (D_call (mhas_ok L m ht N G hG false (by simp; simpa using h)) rfl rfl rfl rfl (by repeat (first | exact Pulls.nil | exact Pulls.all | (apply Pulls.cons; (repeat (first | exact Pull.head | apply Pull.tail))) | apply Pulls.skip))) ?_
  rintro _ _ ⟨_, ⟨rfl, rfl⟩, rfl⟩
  refine WL_val rfl rfl rfl (R_not rfl rfl) ?_
  refine WL_val rfl rfl rfl (R_assign rfl rfl) ?_
  refine WL_nil ?_
  refine WQ_code ?_
  refine WC_T rfl ?_
  refine WC_seq ?_
  refine WC_region ?_
  refine WL_val rfl rfl rfl (R_assign rfl rfl) ?_
  refine WL_nil ?_
  refine WQ_code ?_
  refine WC_ret ?_
  refine WQ_ret rfl rfl (.cons (.tmp rfl) .nil) rfl (by
      exact ⟨rfl, rfl⟩) (by repeat (first | exact Pulls.nil | exact Pulls.all | (apply Pulls.cons; (repeat (first | exact Pull.head | apply Pull.tail))) | apply Pulls.skip))
theorem mstop_ok (L : List Tm) (m : TmM) (ht : TIs L m) (t : Tm) (hm : t ∈ L) (hg : t.gone = false) : Spec Try.prog 33 [ptrH m.pt, .agg #[.int .i64 (t.n : Int), .int .i64 (t.gen : Int)]] (tmH m) (fun r H' => ∃ m' : TmM, r = .int .i64 0 ∧ H' = tmH m' ∧ m'.pt = m.pt ∧ m'.g.n = m.g.n ∧ TIs (rmL L t.n) m') := by
  have hw : toW t ∈ wl L := mem_wl.2 ⟨t, hm, hg, rfl⟩
  have hla := ht.r.last t hm hg
  have hcl := cnt_le L t.n
  have hln := ht.r.ln
  have hnb := ht.nb
  refine Spec.of (E := [(0, ptrH m.pt), (1, .agg #[.int .i64 (t.n : Int), .int .i64 (t.gen : Int)])]) Try.func33 rfl (by kernel_rfl) Try.ntmps33 rfl rfl (fun w => ?_)
  refine WC_seq ?_
  refine WC_region ?_
  refine WL_do rfl rfl rfl (D_box (cs := [_, _]) rfl rfl rfl) ?_
  rintro _ _ ⟨b1, rfl, rfl⟩
  refine WL_val rfl rfl rfl (R_assign rfl rfl) ?_
  refine WL_nil ?_
  refine WQ_code ?_
  refine WC_seq ?_
  refine WC_block ?_
  refine WC_seq ?_
  refine WC_region ?_
  refine WL_val rfl rfl rfl (R_move rfl rfl) ?_
  refine WL_do rfl rfl rfl (D_call (mzero_ok m.pt m.g.p _) rfl rfl rfl rfl (by repeat (first | exact Pulls.nil | exact Pulls.all | (apply Pulls.cons; (repeat (first | exact Pull.head | apply Pull.tail))) | apply Pulls.skip))) ?_
  rintro _ _ ⟨_, ⟨rfl, rfl⟩, rfl⟩
  refine WL_val rfl rfl rfl (R_assign rfl rfl) ?_
  refine WL_nil ?_
  refine WQ_code ?_
  refine WC_F rfl ?_
  refine WC_seq ?_
  refine WC_region ?_
  refine WL_val rfl rfl rfl (R_move rfl rfl) ?_
  refine WL_val rfl rfl rfl (R_loadA (vs := [_, _]) rfl ag68 rfl (by repeat (first | exact List.Mem.head _ | refine List.Mem.tail _ ?_)) rfl (by repeat (first | exact At.nil | refine At.cons ?_ | refine At.succ ?_))) ?_
  refine WL_do rfl rfl rfl (D_call (mhas_ok L m ht (t.n : Int) (t.gen : Int) (by omega) true ⟨fun _ => ⟨t, hm, hg, rfl, rfl⟩, fun _ => rfl⟩) rfl rfl rfl rfl (by repeat (first | exact Pulls.nil | exact Pulls.all | (apply Pulls.cons; (repeat (first | exact Pull.head | apply Pull.tail))) | apply Pulls.skip))) ?_
  rintro _ _ ⟨_, ⟨rfl, rfl⟩, rfl⟩
  refine WL_val rfl rfl rfl (R_not rfl rfl) ?_
  refine WL_val rfl rfl rfl (R_assign rfl rfl) ?_
  refine WL_nil ?_
  refine WQ_code ?_
  refine WC_F rfl ?_
  refine WC_skip ?_
  refine WQ_code ?_
  refine WC_seq ?_
  refine WC_drawR (gH m.g) [(0, true), (1, true), (2, true), (3, true), (4, true), (5, true), (6, false), (7, true)] followsMixed rfl rfl (by kernel_rfl) (by repeat (first | exact Pulls.nil | exact Pulls.all | (apply Pulls.cons; (repeat (first | exact Pull.head | apply Pull.tail))) | apply Pulls.skip)) ?_
  refine WM_val rfl rfl rfl rfl (R_move rfl rfl) ?_
  refine WM_val rfl rfl rfl rfl (R_nilCheck rfl rfl) ?_
  refine WM_val rfl rfl rfl rfl (R_fieldAddr rfl fa118_0 rfl) ?_
  refine WM_val rfl rfl rfl rfl (R_load rfl sc114 rfl (by repeat (first | exact List.Mem.head _ | refine List.Mem.tail _ ?_)) rfl) ?_
  refine WM_val rfl rfl rfl rfl (R_fieldAddr rfl fa68_0 rfl) ?_
  refine WM_val rfl rfl rfl rfl (R_load rfl sc3 rfl (by repeat (first | exact List.Mem.head _ | refine List.Mem.tail _ ?_)) rfl) ?_
  refine WM_do rfl rfl rfl rfl (D_call (hrem_w m.g (wl L) ht.h (toW t) hw) rfl rfl rfl rfl (by repeat (first | exact Pulls.nil | exact Pulls.all | (apply Pulls.cons; (repeat (first | exact Pull.head | apply Pull.tail))) | apply Pulls.skip))) ?_
  rintro _ _ ⟨_, ⟨g', rfl, rfl, hgp, hgn, hg'⟩, rfl⟩
  refine ⟨⟨_, by repeat (first | exact Pulls.nil | exact Pulls.all | (apply Pulls.cons; (repeat (first | exact Pull.head | apply Pull.tail))) | apply Pulls.skip)⟩, ?_⟩
  refine WM_val rfl rfl rfl rfl (R_assign rfl rfl) ?_
  refine WM_nil ?_
  refine WQ_code ?_
  refine WC_ret ?_
  rw [← hgp]
  refine WQ_ret rfl rfl (.cons (.tmp rfl) .nil) rfl (by
      exact ⟨⟨m.pt, g', m.og, m.ng, m.cg, m.tg, m.gv⟩, rfl, rfl, rfl, hgn, ⟨by rw [wl_rm]; exact hg', by dsimp only; rw [hgn]; exact ht.r.rm _, ht.ng, ht.own, ht.gl⟩⟩) (by repeat (first | exact Pulls.nil | exact Pulls.all | (apply Pulls.cons; (repeat (first | exact Pull.head | apply Pull.tail))) | apply Pulls.skip))
/-- The time of the first one, or Never. -/
def nxtL (L : List Tm) : Nat := match fstP L with
  | none => 18446744073709551615
  | some (_, t) => t.tm
theorem mnext_none (L : List Tm) (m : TmM) (ht : TIs L m) (h : fstP L = none) : Spec Try.prog 32 [ptrH m.pt] (tmH m) (fun r H' => r = .int .u64 18446744073709551615 ∧ H' = tmH m) := by
  have hg0 : HIs [] m.g := by have := ht.h; rw [wl_nil.2 h] at this; exact this
  refine Spec.of (E := [(0, ptrH m.pt)]) Try.func32 rfl (by kernel_rfl) Try.ntmps32 rfl rfl (fun w => ?_)
  refine WC_seq ?_
  refine WC_region ?_
  refine WL_val rfl rfl rfl (R_assign rfl rfl) ?_
  refine WL_nil ?_
  refine WQ_code ?_
  refine WC_seq ?_
  refine WC_seq ?_
  refine WC_region ?_
  refine WL_val rfl rfl rfl (R_move rfl rfl) ?_
  refine WL_do rfl rfl rfl (D_call (mzero_ok m.pt m.g.p _) rfl rfl rfl rfl (by repeat (first | exact Pulls.nil | exact Pulls.all | (apply Pulls.cons; (repeat (first | exact Pull.head | apply Pull.tail))) | apply Pulls.skip))) ?_
  rintro _ _ ⟨_, ⟨rfl, rfl⟩, rfl⟩
  refine WL_nil ?_
  refine WQ_code ?_
  refine WC_F rfl ?_
  refine WC_skip ?_
  refine WQ_code ?_
  refine WC_seq ?_
  refine WC_region ?_
  refine WL_val rfl rfl rfl (R_move rfl rfl) ?_
  refine WL_val rfl rfl rfl (R_nilCheck rfl rfl) ?_
  refine WL_val rfl rfl rfl (R_fieldAddr rfl fa118_0 rfl) ?_
  refine WL_val rfl rfl rfl (R_load rfl sc114 rfl (by repeat (first | exact List.Mem.head _ | refine List.Mem.tail _ ?_)) rfl) ?_
  refine WL_do rfl rfl rfl (D_call (htop_nil m.g hg0) rfl rfl rfl rfl (by repeat (first | exact Pulls.nil | exact Pulls.all | (apply Pulls.cons; (repeat (first | exact Pull.head | apply Pull.tail))) | apply Pulls.skip))) ?_
  rintro _ _ ⟨_, ⟨rfl, rfl⟩, rfl⟩
  refine WL_val rfl rfl rfl (R_move rfl rfl) ?_
  refine WL_val rfl rfl rfl (R_extract rfl rfl rfl) ?_
  refine WL_val rfl rfl rfl (R_extract rfl rfl rfl) ?_
  refine WL_val rfl rfl rfl (R_assign rfl rfl) ?_
  refine WL_val rfl rfl rfl (R_assign rfl rfl) ?_
  refine WL_nil ?_
  refine WQ_code ?_
  refine WC_seq ?_
  refine WC_seq ?_
  refine WC_region ?_
  refine WL_val rfl rfl rfl (R_move rfl rfl) ?_
  refine WL_val rfl rfl rfl (R_neq rfl rfl rfl) ?_
  refine WL_nil ?_
  refine WQ_code ?_
  refine WC_dT rfl (by simp) ?_
  refine WC_seq ?_
  refine WC_region ?_
  refine WL_val rfl rfl rfl (R_assign rfl rfl) ?_
  refine WL_nil ?_
  refine WQ_code ?_
  refine WC_ret ?_
  refine WQ_ret rfl rfl (.cons (.tmp rfl) .nil) rfl (by
      exact ⟨rfl, rfl⟩) (by repeat (first | exact Pulls.nil | exact Pulls.all | (apply Pulls.cons; (repeat (first | exact Pull.head | apply Pull.tail))) | apply Pulls.skip))
theorem mnext_some (L : List Tm) (m : TmM) (ht : TIs L m) (i : Nat) (t : Tm) (h : IsFst L i t) : Spec Try.prog 32 [ptrH m.pt] (tmH m) (fun r H' => r = .int .u64 (t.tm : Int) ∧ H' = tmH m) := by
  have hw := h.isMin ht.r
  refine Spec.of (E := [(0, ptrH m.pt)]) Try.func32 rfl (by kernel_rfl) Try.ntmps32 rfl rfl (fun w => ?_)
  refine WC_seq ?_
  refine WC_region ?_
  refine WL_val rfl rfl rfl (R_assign rfl rfl) ?_
  refine WL_nil ?_
  refine WQ_code ?_
  refine WC_seq ?_
  refine WC_seq ?_
  refine WC_region ?_
  refine WL_val rfl rfl rfl (R_move rfl rfl) ?_
  refine WL_do rfl rfl rfl (D_call (mzero_ok m.pt m.g.p _) rfl rfl rfl rfl (by repeat (first | exact Pulls.nil | exact Pulls.all | (apply Pulls.cons; (repeat (first | exact Pull.head | apply Pull.tail))) | apply Pulls.skip))) ?_
  rintro _ _ ⟨_, ⟨rfl, rfl⟩, rfl⟩
  refine WL_nil ?_
  refine WQ_code ?_
  refine WC_F rfl ?_
  refine WC_skip ?_
  refine WQ_code ?_
  refine WC_seq ?_
  refine WC_region ?_
  refine WL_val rfl rfl rfl (R_move rfl rfl) ?_
  refine WL_val rfl rfl rfl (R_nilCheck rfl rfl) ?_
  refine WL_val rfl rfl rfl (R_fieldAddr rfl fa118_0 rfl) ?_
  refine WL_val rfl rfl rfl (R_load rfl sc114 rfl (by repeat (first | exact List.Mem.head _ | refine List.Mem.tail _ ?_)) rfl) ?_
  refine WL_do rfl rfl rfl (D_call (htop_w m.g (wl L) ht.h (toW t) hw) rfl rfl rfl rfl (by repeat (first | exact Pulls.nil | exact Pulls.all | (apply Pulls.cons; (repeat (first | exact Pull.head | apply Pull.tail))) | apply Pulls.skip))) ?_
  rintro _ _ ⟨_, ⟨rfl, rfl⟩, rfl⟩
  refine WL_val rfl rfl rfl (R_move rfl rfl) ?_
  refine WL_val rfl rfl rfl (R_extract rfl rfl rfl) ?_
  refine WL_val rfl rfl rfl (R_extract rfl rfl rfl) ?_
  refine WL_val rfl rfl rfl (R_assign rfl rfl) ?_
  refine WL_val rfl rfl rfl (R_assign rfl rfl) ?_
  refine WL_nil ?_
  refine WQ_code ?_
  refine WC_seq ?_
  refine WC_seq ?_
  refine WC_region ?_
  refine WL_val rfl rfl rfl (R_move rfl rfl) ?_
  refine WL_val rfl rfl rfl (R_neq rfl rfl rfl) ?_
  refine WL_nil ?_
  refine WQ_code ?_
  refine WC_dF rfl (by simp) ?_
  refine WC_skip ?_
  refine WQ_code ?_
  refine WC_seq ?_
  refine WC_region ?_
  refine WL_val rfl rfl rfl (R_move rfl rfl) ?_
  refine WL_val rfl rfl rfl (R_nilCheck rfl rfl) ?_
  refine WL_val rfl rfl rfl (R_fieldAddr rfl fa118_0 rfl) ?_
  refine WL_val rfl rfl rfl (R_load rfl sc114 rfl (by repeat (first | exact List.Mem.head _ | refine List.Mem.tail _ ?_)) rfl) ?_
  refine WL_val rfl rfl rfl (R_move rfl rfl) ?_
  refine WL_do rfl rfl rfl (D_call (hget_w m.g (wl L) ht.h (toW t) hw.mem) rfl rfl rfl rfl (by repeat (first | exact Pulls.nil | exact Pulls.all | (apply Pulls.cons; (repeat (first | exact Pull.head | apply Pull.tail))) | apply Pulls.skip))) ?_
  rintro _ _ ⟨_, ⟨rfl, rfl⟩, rfl⟩
  refine WL_val rfl rfl rfl (R_move rfl rfl) ?_
  refine WL_val rfl rfl rfl (R_extract rfl rfl rfl) ?_
  refine WL_val rfl rfl rfl (R_extract rfl rfl rfl) ?_
  refine WL_val rfl rfl rfl (R_extract rfl rfl rfl) ?_
  refine WL_val rfl rfl rfl (R_assign rfl rfl) ?_
  refine WL_val rfl rfl rfl (R_assign rfl rfl) ?_
  refine WL_val rfl rfl rfl (R_assign rfl rfl) ?_
  refine WL_nil ?_
  refine WQ_code ?_
  refine WC_seq ?_
  refine WC_region ?_
  refine WL_val rfl rfl rfl (R_move rfl rfl) ?_
  refine WL_val rfl rfl rfl (R_assign rfl rfl) ?_
  refine WL_nil ?_
  refine WQ_code ?_
  refine WC_ret ?_
  refine WQ_ret rfl rfl (.cons (.tmp rfl) .nil) rfl (by
      exact ⟨rfl, rfl⟩) (by repeat (first | exact Pulls.nil | exact Pulls.all | (apply Pulls.cons; (repeat (first | exact Pull.head | apply Pull.tail))) | apply Pulls.skip))
theorem mnext_ok (L : List Tm) (m : TmM) (ht : TIs L m) : Spec Try.prog 32 [ptrH m.pt] (tmH m) (fun r H' => r = .int .u64 (nxtL L : Int) ∧ H' = tmH m) := by
  unfold nxtL
  cases h : fstP L with
  | none => exact mnext_none L m ht h
  | some x => obtain ⟨i, t⟩ := x; exact mnext_some L m ht i t (fstP_some h)

end Go.Proofs.Ytnkpefonocggfaa
