/-
  Chapter 09 (park), part TaskM: contracts of functions that the laws call, each for the heap it names.
-/
import Derived.Test.YtljmeemgjbcgeaaRows
import Derived.Test.YtljmeemgjbcgeaaZSLQueue
import Derived.Test.YtljmeemgjbcgeaaTab
import Derived.Test.YtljmeemgjbcgeaaTaskT
set_option linter.unusedVariables false
set_option maxRecDepth 20000
set_option maxHeartbeats 1000000
namespace Go.Proofs.Ytljmeemgjbcgeaa


/-- A table of tasks in memory, as one record. -/
structure TkM where
  p : Nat
  pe : Nat
  pq : Nat
  pm : Nat
  S : List (Int × Nat)
  c : Nat
  tl : List Value
  Q : List (Nat × Int)
  n : Nat
  es : Array MapEntry
  mc : Nat
abbrev tkH (t : TkM) : Heap := tH t.p t.pe t.pq t.pm t.S t.c t.tl t.Q t.n t.es t.mc
abbrev TkIs (sm qm : List Int) (t : TkM) : Prop := Tw sm qm t.S t.Q t.n t.es
theorem TkIs.sl {sm qm : List Int} {t : TkM} (h : TkIs sm qm t) : t.S.length = sm.length := by rw [← h.sm, List.length_map]
theorem TkIs.len {sm qm : List Int} {t : TkM} (h : TkIs sm qm t) : 1 ≤ sm.length ∧ sm.length ≤ 64 := by rw [← h.sl]; exact h.tk.len
theorem tk_new (m : Nat) (h1 : 1 ≤ m) (h2 : m ≤ 64) : Spec Try.prog 30 [.int .i64 (m : Int)] [] (fun r H' => ∃ t : TkM, r = .tuple #[ptrQ t.p, .int .i64 0] ∧ H' = tkH t ∧ t.n = 0 ∧ TkIs (List.replicate m 0) [] t) :=
  (tnew_ok m h1 h2).mono fun r H' ⟨p, pe, pq, pm, e1, e2⟩ => ⟨⟨p, pe, pq, pm, idle m, m, [], [], 0, #[], 0⟩, e1, e2, rfl, tw_idle h1 h2⟩
theorem tk_state (t : TkM) (sm qm : List Int) (hw : TkIs sm qm t) (i : Int) : Spec Try.prog 42 [ptrQ t.p, .int .i64 i] (tkH t) (fun r H' => r = .tuple #[.int .i64 (stR sm i).1, .int .i64 (stR sm i).2] ∧ H' = tkH t) :=
  ((state_R t.p t.pe t.pq t.pm t.S t.c t.tl t.Q t.n t.es t.mc sm qm hw i).fr (qH t.pq t.pm t.Q t.n t.es t.mc)).mono fun r H' ⟨H1, ⟨e1, e2⟩, e3⟩ => ⟨e1, by rw [e3, e2]⟩
theorem tk_ready (t : TkM) (sm qm : List Int) (hw : TkIs sm qm t) : Spec Try.prog 37 [ptrQ t.p] (tkH t) (fun r H' => ∃ ob c' tl', r = slV ob qm.length c' ∧ Own ob qm.length c' 1 (ivs qm) tl' ∧ H' = ⟨ob, cl (ivs qm ++ tl') 3⟩ :: (tkH t)) :=
  ready_run t.p t.pe t.pq t.pm t.S t.c t.tl t.Q t.n t.es t.mc sm qm hw
theorem tk_copy (t : TkM) (sm qm : List Int) (hw : TkIs sm qm t) : Spec Try.prog 55 [ptrQ t.p] (tkH t) (fun r H' => ∃ t' : TkM, r = ptrQ t'.p ∧ H' = tkH t' ++ tkH t ∧ t'.n = t.n ∧ TkIs sm qm t') :=
  (copy_ok t.p t.pe t.pq t.pm t.S t.c t.tl t.Q t.n t.es t.mc hw.tk.len).mono fun r H' ⟨p2, pe2, pq2, pm2, c2, tl2, e1, e2⟩ => ⟨⟨p2, pe2, pq2, pm2, t.S, c2, tl2, t.Q, t.n, t.es, t.mc⟩, e1, e2, rfl, hw⟩

theorem tk_start (t : TkM) (sm qm : List Int) (hw : TkIs sm qm t) (hn : t.n < 1000000) (i : Int) : Spec Try.prog 32 [ptrQ t.p, .int .i64 i] (tkH t) (fun r H' => ∃ t' : TkM, r = .int .i64 (stepR sm qm 0 1 i).1 ∧ H' = tkH t' ∧ t'.p = t.p ∧ t'.n ≤ t.n + 1 ∧ TkIs (stepR sm qm 0 1 i).2.1 (stepR sm qm 0 1 i).2.2 t') :=
  (start_step t.p t.pe t.pq t.pm t.S t.c t.tl t.Q t.n t.es t.mc sm qm hw hn i).mono fun r H' ⟨S', Q', n', es', mc', tl', e1, e2, e3, e4⟩ => ⟨⟨t.p, t.pe, t.pq, t.pm, S', t.c, tl', Q', n', es', mc'⟩, e1, e2, rfl, e4, e3⟩

theorem tk_park (t : TkM) (sm qm : List Int) (hw : TkIs sm qm t) (hn : t.n < 1000000) (i : Int) : Spec Try.prog 36 [ptrQ t.p, .int .i64 i] (tkH t) (fun r H' => ∃ t' : TkM, r = .int .i64 (stepR sm qm 1 2 i).1 ∧ H' = tkH t' ∧ t'.p = t.p ∧ t'.n ≤ t.n + 1 ∧ TkIs (stepR sm qm 1 2 i).2.1 (stepR sm qm 1 2 i).2.2 t') :=
  (park_step t.p t.pe t.pq t.pm t.S t.c t.tl t.Q t.n t.es t.mc sm qm hw hn i).mono fun r H' ⟨S', Q', n', es', mc', tl', e1, e2, e3, e4⟩ => ⟨⟨t.p, t.pe, t.pq, t.pm, S', t.c, tl', Q', n', es', mc'⟩, e1, e2, rfl, e4, e3⟩

theorem tk_wake (t : TkM) (sm qm : List Int) (hw : TkIs sm qm t) (hn : t.n < 1000000) (i : Int) : Spec Try.prog 61 [ptrQ t.p, .int .i64 i] (tkH t) (fun r H' => ∃ t' : TkM, r = .int .i64 (stepR sm qm 2 1 i).1 ∧ H' = tkH t' ∧ t'.p = t.p ∧ t'.n ≤ t.n + 1 ∧ TkIs (stepR sm qm 2 1 i).2.1 (stepR sm qm 2 1 i).2.2 t') :=
  (wake_step t.p t.pe t.pq t.pm t.S t.c t.tl t.Q t.n t.es t.mc sm qm hw hn i).mono fun r H' ⟨S', Q', n', es', mc', tl', e1, e2, e3, e4⟩ => ⟨⟨t.p, t.pe, t.pq, t.pm, S', t.c, tl', Q', n', es', mc'⟩, e1, e2, rfl, e4, e3⟩

theorem tk_finish (t : TkM) (sm qm : List Int) (hw : TkIs sm qm t) (hn : t.n < 1000000) (i : Int) : Spec Try.prog 40 [ptrQ t.p, .int .i64 i] (tkH t) (fun r H' => ∃ t' : TkM, r = .int .i64 (stepR sm qm 1 0 i).1 ∧ H' = tkH t' ∧ t'.p = t.p ∧ t'.n ≤ t.n + 1 ∧ TkIs (stepR sm qm 1 0 i).2.1 (stepR sm qm 1 0 i).2.2 t') :=
  (finish_step t.p t.pe t.pq t.pm t.S t.c t.tl t.Q t.n t.es t.mc sm qm hw hn i).mono fun r H' ⟨S', Q', n', es', mc', tl', e1, e2, e3, e4⟩ => ⟨⟨t.p, t.pe, t.pq, t.pm, S', t.c, tl', Q', n', es', mc'⟩, e1, e2, rfl, e4, e3⟩

theorem tk_turn (t : TkM) (sm qm : List Int) (hw : TkIs sm qm t) (hn : t.n < 1000000) (i : Int) : Spec Try.prog 41 [ptrQ t.p, .int .i64 i] (tkH t) (fun r H' => ∃ t' : TkM, r = .int .i64 (stepR sm qm 1 1 i).1 ∧ H' = tkH t' ∧ t'.p = t.p ∧ t'.n ≤ t.n + 1 ∧ TkIs (stepR sm qm 1 1 i).2.1 (stepR sm qm 1 1 i).2.2 t') :=
  (turn_step t.p t.pe t.pq t.pm t.S t.c t.tl t.Q t.n t.es t.mc sm qm hw hn i).mono fun r H' ⟨S', Q', n', es', mc', tl', e1, e2, e3, e4⟩ => ⟨⟨t.p, t.pe, t.pq, t.pm, S', t.c, tl', Q', n', es', mc'⟩, e1, e2, rfl, e4, e3⟩

end Go.Proofs.Ytljmeemgjbcgeaa
