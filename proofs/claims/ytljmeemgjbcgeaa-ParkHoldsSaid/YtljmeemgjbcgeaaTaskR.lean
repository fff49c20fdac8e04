/-
  Chapter 09 (park), part TaskR: contracts of functions that the laws call, each for the heap it names.
-/
import Derived.Test.YtljmeemgjbcgeaaRows
import Derived.Test.YtljmeemgjbcgeaaZSLQueue
import Derived.Test.YtljmeemgjbcgeaaTab
import Derived.Test.YtljmeemgjbcgeaaTaskC
set_option linter.unusedVariables false
set_option maxRecDepth 20000
set_option maxHeartbeats 1000000
namespace Go.Proofs.Ytljmeemgjbcgeaa


/-- A table with these states and this run set. -/
structure Tw (sm qm : List Int) (S : List (Int × Nat)) (Q : List (Nat × Int)) (n : Nat) (es : Array MapEntry) : Prop where
  tk : Tk S Q n
  mp : Mp (.int .u64) ekQ evQ es (nds 0 0 Q)
  sm : S.map (·.1) = sm
  qm : Q.map (·.2) = qm
theorem tw_idle {m : Nat} (h1 : 1 ≤ m) (h2 : m ≤ 64) : Tw (List.replicate m 0) [] (idle m) [] 0 #[] := ⟨tk_idle h1 h2, mp_new, by simp [idle], rfl⟩
theorem doq_run {S S' : List (Int × Nat)} {Q Q' : List (Nat × Int)} {n n' i : Nat} {fr to e : Int} {sm qm : List Int} {es es' : Array MapEntry} (hw : Tw sm qm S Q n es) (hM : Mp (.int .u64) ekQ evQ es' (nds 0 0 Q')) (h : DoQ S Q n fr to (i : Int) e S' Q' n') (hi : sm[i]? = some fr) :
    e = 0 ∧ Tw (sm.set i to) (qm.filter (fun v => decide (v ≠ (i : Int))) ++ (if to = 1 then [(i : Int)] else [])) S' Q' n' es' ∧ n' ≤ n + 1 := by
  obtain ⟨h1, h2, h3, h4⟩ := h
  have hi2 : i < S.length := by
    have := (List.getElem?_eq_some_iff.1 hi).1
    rw [← hw.sm, List.length_map] at this; exact this
  rcases h4 with ⟨h4, _⟩ | ⟨j, x, t, hj, hS, h4⟩
  · omega
  · obtain rfl : i = j := by omega
    have hx : x = fr := by
      rw [← hw.sm, List.getElem?_map, hS] at hi
      simpa using hi
    rcases h4 with ⟨h4, _⟩ | ⟨_, h5, h6, h7⟩
    · exact absurd hx h4
    · exact ⟨h5, ⟨h3, hM, by rw [h6, hw.sm], by rw [h7, hw.qm]⟩, h1⟩
theorem doq_bad {S S' : List (Int × Nat)} {Q Q' : List (Nat × Int)} {n n' i : Nat} {fr to e x : Int} {sm qm : List Int} {es es' : Array MapEntry} (hw : Tw sm qm S Q n es) (hM : Mp (.int .u64) ekQ evQ es' (nds 0 0 Q')) (h : DoQ S Q n fr to (i : Int) e S' Q' n') (hi : sm[i]? = some x) (hx : x ≠ fr) :
    e = 8 ∧ Tw sm qm S' Q' n' es' ∧ n' ≤ n + 1 := by
  obtain ⟨h1, h2, h3, h4⟩ := h
  have hi2 : i < S.length := by
    have := (List.getElem?_eq_some_iff.1 hi).1
    rw [← hw.sm, List.length_map] at this; exact this
  rcases h4 with ⟨h4, _⟩ | ⟨j, y, t, hj, hS, h4⟩
  · omega
  · obtain rfl : i = j := by omega
    have hy : y = x := by
      rw [← hw.sm, List.getElem?_map, hS] at hi
      simpa using hi
    rcases h4 with ⟨_, h5, rfl, rfl⟩ | ⟨h4, _⟩
    · exact ⟨h5, ⟨h3, hM, hw.sm, hw.qm⟩, h1⟩
    · exact absurd (hy.symm.trans h4) hx
theorem ready_run (p pe pq pm : Nat) (S : List (Int × Nat)) (c : Nat) (tl : List Value) (Q : List (Nat × Int)) (n : Nat) (es : Array MapEntry) (mc : Nat) (sm qm : List Int) (hw : Tw sm qm S Q n es) : Spec Try.prog 37 [ptrQ p] (tH p pe pq pm S c tl Q n es mc) (fun r H' => ∃ ob c' tl', r = slV ob qm.length c' ∧ Own ob qm.length c' 1 (ivs qm) tl' ∧ H' = ⟨ob, cl (ivs qm ++ tl') 3⟩ :: (tH p pe pq pm S c tl Q n es mc)) := by
  have h := ready_ok p pe pq pm S c tl Q n es mc hw.tk hw.mp
  rw [hw.qm] at h
  have hl : Q.length = qm.length := by rw [← hw.qm, List.length_map]
  rw [hl] at h
  exact h
theorem state_run (p pe pq pm : Nat) (S : List (Int × Nat)) (c : Nat) (tl : List Value) (Q : List (Nat × Int)) (n : Nat) (es : Array MapEntry) (mc : Nat) (sm qm : List Int) (hw : Tw sm qm S Q n es) (i : Nat) (x : Int) (h : sm[i]? = some x) : Spec Try.prog 42 [ptrQ p, .int .i64 (i : Int)] (tR p pe pq S c tl) (fun r H' => r = .tuple #[.int .i64 x, .int .i64 0] ∧ H' = tR p pe pq S c tl) :=
  (state_ok p pe pq S c tl hw.tk.len.2 i).mono fun r H' ⟨s, e, h1, h2, h3⟩ => by
    refine ⟨?_, h2⟩
    have hl : i < S.length := by
      have := (List.getElem?_eq_some_iff.1 h).1
      rw [← hw.sm, List.length_map] at this; exact this
    rcases h3 with ⟨h3, _⟩ | ⟨j, t, hj, hS, rfl⟩
    · omega
    · obtain rfl : i = j := by omega
      rw [← hw.sm, List.getElem?_map, hS] at h
      simp only [Option.map_some, Option.some.injEq] at h
      rw [h1, h]
theorem state_out (p pe pq pm : Nat) (S : List (Int × Nat)) (c : Nat) (tl : List Value) (Q : List (Nat × Int)) (n : Nat) (es : Array MapEntry) (mc : Nat) (sm qm : List Int) (hw : Tw sm qm S Q n es) (i : Int) (h : i < 0 ∨ (sm.length : Int) ≤ i) : Spec Try.prog 42 [ptrQ p, .int .i64 i] (tR p pe pq S c tl) (fun r H' => r = .tuple #[.int .i64 0, .int .i64 2] ∧ H' = tR p pe pq S c tl) :=
  (state_ok p pe pq S c tl hw.tk.len.2 i).mono fun r H' ⟨s, e, h1, h2, h3⟩ => by
    refine ⟨?_, h2⟩
    have hl : sm.length = S.length := by rw [← hw.sm, List.length_map]
    rcases h3 with ⟨_, rfl, rfl⟩ | ⟨j, t, hj, hS, _⟩
    · exact h1
    · have := (List.getElem?_eq_some_iff.1 hS).1; omega

theorem start_run (p pe pq pm : Nat) (S : List (Int × Nat)) (c : Nat) (tl : List Value) (Q : List (Nat × Int)) (n : Nat) (es : Array MapEntry) (mc : Nat) (sm qm : List Int) (hw : Tw sm qm S Q n es) (hn : n < 1000000) (i : Nat) (sm' qm' : List Int) (hi : sm[i]? = some 0) (h2 : sm.set i 1 = sm') (h3 : qm.filter (fun v => decide (v ≠ (i : Int))) ++ (if (1 : Int) = 1 then [(i : Int)] else []) = qm') : Spec Try.prog 32 [ptrQ p, .int .i64 (i : Int)] (tH p pe pq pm S c tl Q n es mc) (fun r H' => ∃ S' Q' n' es' mc' tl', r = .int .i64 0 ∧ H' = tH p pe pq pm S' c tl' Q' n' es' mc' ∧ Tw sm' qm' S' Q' n' es' ∧ n' ≤ n + 1) :=
  (start_ok p pe pq pm S c tl Q n es mc hw.tk hw.mp hn i).mono fun r H' ⟨e, S', Q', n', es', mc', tl', h4, h5, h6, h7⟩ => by
    obtain ⟨rfl, h8, h9⟩ := doq_run hw h6 h7 hi
    subst h2; subst h3
    exact ⟨S', Q', n', es', mc', tl', h4, h5, h8, h9⟩
theorem start_bad (p pe pq pm : Nat) (S : List (Int × Nat)) (c : Nat) (tl : List Value) (Q : List (Nat × Int)) (n : Nat) (es : Array MapEntry) (mc : Nat) (sm qm : List Int) (hw : Tw sm qm S Q n es) (hn : n < 1000000) (i : Nat) (x : Int) (hi : sm[i]? = some x) (hx : x ≠ 0) : Spec Try.prog 32 [ptrQ p, .int .i64 (i : Int)] (tH p pe pq pm S c tl Q n es mc) (fun r H' => ∃ S' Q' n' es' mc' tl', r = .int .i64 8 ∧ H' = tH p pe pq pm S' c tl' Q' n' es' mc' ∧ Tw sm qm S' Q' n' es' ∧ n' ≤ n + 1) :=
  (start_ok p pe pq pm S c tl Q n es mc hw.tk hw.mp hn i).mono fun r H' ⟨e, S', Q', n', es', mc', tl', h4, h5, h6, h7⟩ => by
    obtain ⟨rfl, h8, h9⟩ := doq_bad hw h6 h7 hi hx
    exact ⟨S', Q', n', es', mc', tl', h4, h5, h8, h9⟩

theorem park_run (p pe pq pm : Nat) (S : List (Int × Nat)) (c : Nat) (tl : List Value) (Q : List (Nat × Int)) (n : Nat) (es : Array MapEntry) (mc : Nat) (sm qm : List Int) (hw : Tw sm qm S Q n es) (hn : n < 1000000) (i : Nat) (sm' qm' : List Int) (hi : sm[i]? = some 1) (h2 : sm.set i 2 = sm') (h3 : qm.filter (fun v => decide (v ≠ (i : Int))) ++ (if (2 : Int) = 1 then [(i : Int)] else []) = qm') : Spec Try.prog 36 [ptrQ p, .int .i64 (i : Int)] (tH p pe pq pm S c tl Q n es mc) (fun r H' => ∃ S' Q' n' es' mc' tl', r = .int .i64 0 ∧ H' = tH p pe pq pm S' c tl' Q' n' es' mc' ∧ Tw sm' qm' S' Q' n' es' ∧ n' ≤ n + 1) :=
  (park_ok p pe pq pm S c tl Q n es mc hw.tk hw.mp hn i).mono fun r H' ⟨e, S', Q', n', es', mc', tl', h4, h5, h6, h7⟩ => by
    obtain ⟨rfl, h8, h9⟩ := doq_run hw h6 h7 hi
    subst h2; subst h3
    exact ⟨S', Q', n', es', mc', tl', h4, h5, h8, h9⟩
theorem park_bad (p pe pq pm : Nat) (S : List (Int × Nat)) (c : Nat) (tl : List Value) (Q : List (Nat × Int)) (n : Nat) (es : Array MapEntry) (mc : Nat) (sm qm : List Int) (hw : Tw sm qm S Q n es) (hn : n < 1000000) (i : Nat) (x : Int) (hi : sm[i]? = some x) (hx : x ≠ 1) : Spec Try.prog 36 [ptrQ p, .int .i64 (i : Int)] (tH p pe pq pm S c tl Q n es mc) (fun r H' => ∃ S' Q' n' es' mc' tl', r = .int .i64 8 ∧ H' = tH p pe pq pm S' c tl' Q' n' es' mc' ∧ Tw sm qm S' Q' n' es' ∧ n' ≤ n + 1) :=
  (park_ok p pe pq pm S c tl Q n es mc hw.tk hw.mp hn i).mono fun r H' ⟨e, S', Q', n', es', mc', tl', h4, h5, h6, h7⟩ => by
    obtain ⟨rfl, h8, h9⟩ := doq_bad hw h6 h7 hi hx
    exact ⟨S', Q', n', es', mc', tl', h4, h5, h8, h9⟩

theorem wake_run (p pe pq pm : Nat) (S : List (Int × Nat)) (c : Nat) (tl : List Value) (Q : List (Nat × Int)) (n : Nat) (es : Array MapEntry) (mc : Nat) (sm qm : List Int) (hw : Tw sm qm S Q n es) (hn : n < 1000000) (i : Nat) (sm' qm' : List Int) (hi : sm[i]? = some 2) (h2 : sm.set i 1 = sm') (h3 : qm.filter (fun v => decide (v ≠ (i : Int))) ++ (if (1 : Int) = 1 then [(i : Int)] else []) = qm') : Spec Try.prog 61 [ptrQ p, .int .i64 (i : Int)] (tH p pe pq pm S c tl Q n es mc) (fun r H' => ∃ S' Q' n' es' mc' tl', r = .int .i64 0 ∧ H' = tH p pe pq pm S' c tl' Q' n' es' mc' ∧ Tw sm' qm' S' Q' n' es' ∧ n' ≤ n + 1) :=
  (wake_ok p pe pq pm S c tl Q n es mc hw.tk hw.mp hn i).mono fun r H' ⟨e, S', Q', n', es', mc', tl', h4, h5, h6, h7⟩ => by
    obtain ⟨rfl, h8, h9⟩ := doq_run hw h6 h7 hi
    subst h2; subst h3
    exact ⟨S', Q', n', es', mc', tl', h4, h5, h8, h9⟩
theorem wake_bad (p pe pq pm : Nat) (S : List (Int × Nat)) (c : Nat) (tl : List Value) (Q : List (Nat × Int)) (n : Nat) (es : Array MapEntry) (mc : Nat) (sm qm : List Int) (hw : Tw sm qm S Q n es) (hn : n < 1000000) (i : Nat) (x : Int) (hi : sm[i]? = some x) (hx : x ≠ 2) : Spec Try.prog 61 [ptrQ p, .int .i64 (i : Int)] (tH p pe pq pm S c tl Q n es mc) (fun r H' => ∃ S' Q' n' es' mc' tl', r = .int .i64 8 ∧ H' = tH p pe pq pm S' c tl' Q' n' es' mc' ∧ Tw sm qm S' Q' n' es' ∧ n' ≤ n + 1) :=
  (wake_ok p pe pq pm S c tl Q n es mc hw.tk hw.mp hn i).mono fun r H' ⟨e, S', Q', n', es', mc', tl', h4, h5, h6, h7⟩ => by
    obtain ⟨rfl, h8, h9⟩ := doq_bad hw h6 h7 hi hx
    exact ⟨S', Q', n', es', mc', tl', h4, h5, h8, h9⟩

theorem finish_run (p pe pq pm : Nat) (S : List (Int × Nat)) (c : Nat) (tl : List Value) (Q : List (Nat × Int)) (n : Nat) (es : Array MapEntry) (mc : Nat) (sm qm : List Int) (hw : Tw sm qm S Q n es) (hn : n < 1000000) (i : Nat) (sm' qm' : List Int) (hi : sm[i]? = some 1) (h2 : sm.set i 0 = sm') (h3 : qm.filter (fun v => decide (v ≠ (i : Int))) ++ (if (0 : Int) = 1 then [(i : Int)] else []) = qm') : Spec Try.prog 40 [ptrQ p, .int .i64 (i : Int)] (tH p pe pq pm S c tl Q n es mc) (fun r H' => ∃ S' Q' n' es' mc' tl', r = .int .i64 0 ∧ H' = tH p pe pq pm S' c tl' Q' n' es' mc' ∧ Tw sm' qm' S' Q' n' es' ∧ n' ≤ n + 1) :=
  (finish_ok p pe pq pm S c tl Q n es mc hw.tk hw.mp hn i).mono fun r H' ⟨e, S', Q', n', es', mc', tl', h4, h5, h6, h7⟩ => by
    obtain ⟨rfl, h8, h9⟩ := doq_run hw h6 h7 hi
    subst h2; subst h3
    exact ⟨S', Q', n', es', mc', tl', h4, h5, h8, h9⟩
theorem finish_bad (p pe pq pm : Nat) (S : List (Int × Nat)) (c : Nat) (tl : List Value) (Q : List (Nat × Int)) (n : Nat) (es : Array MapEntry) (mc : Nat) (sm qm : List Int) (hw : Tw sm qm S Q n es) (hn : n < 1000000) (i : Nat) (x : Int) (hi : sm[i]? = some x) (hx : x ≠ 1) : Spec Try.prog 40 [ptrQ p, .int .i64 (i : Int)] (tH p pe pq pm S c tl Q n es mc) (fun r H' => ∃ S' Q' n' es' mc' tl', r = .int .i64 8 ∧ H' = tH p pe pq pm S' c tl' Q' n' es' mc' ∧ Tw sm qm S' Q' n' es' ∧ n' ≤ n + 1) :=
  (finish_ok p pe pq pm S c tl Q n es mc hw.tk hw.mp hn i).mono fun r H' ⟨e, S', Q', n', es', mc', tl', h4, h5, h6, h7⟩ => by
    obtain ⟨rfl, h8, h9⟩ := doq_bad hw h6 h7 hi hx
    exact ⟨S', Q', n', es', mc', tl', h4, h5, h8, h9⟩

theorem turn_run (p pe pq pm : Nat) (S : List (Int × Nat)) (c : Nat) (tl : List Value) (Q : List (Nat × Int)) (n : Nat) (es : Array MapEntry) (mc : Nat) (sm qm : List Int) (hw : Tw sm qm S Q n es) (hn : n < 1000000) (i : Nat) (sm' qm' : List Int) (hi : sm[i]? = some 1) (h2 : sm.set i 1 = sm') (h3 : qm.filter (fun v => decide (v ≠ (i : Int))) ++ (if (1 : Int) = 1 then [(i : Int)] else []) = qm') : Spec Try.prog 41 [ptrQ p, .int .i64 (i : Int)] (tH p pe pq pm S c tl Q n es mc) (fun r H' => ∃ S' Q' n' es' mc' tl', r = .int .i64 0 ∧ H' = tH p pe pq pm S' c tl' Q' n' es' mc' ∧ Tw sm' qm' S' Q' n' es' ∧ n' ≤ n + 1) :=
  (turn_ok p pe pq pm S c tl Q n es mc hw.tk hw.mp hn i).mono fun r H' ⟨e, S', Q', n', es', mc', tl', h4, h5, h6, h7⟩ => by
    obtain ⟨rfl, h8, h9⟩ := doq_run hw h6 h7 hi
    subst h2; subst h3
    exact ⟨S', Q', n', es', mc', tl', h4, h5, h8, h9⟩
theorem turn_bad (p pe pq pm : Nat) (S : List (Int × Nat)) (c : Nat) (tl : List Value) (Q : List (Nat × Int)) (n : Nat) (es : Array MapEntry) (mc : Nat) (sm qm : List Int) (hw : Tw sm qm S Q n es) (hn : n < 1000000) (i : Nat) (x : Int) (hi : sm[i]? = some x) (hx : x ≠ 1) : Spec Try.prog 41 [ptrQ p, .int .i64 (i : Int)] (tH p pe pq pm S c tl Q n es mc) (fun r H' => ∃ S' Q' n' es' mc' tl', r = .int .i64 8 ∧ H' = tH p pe pq pm S' c tl' Q' n' es' mc' ∧ Tw sm qm S' Q' n' es' ∧ n' ≤ n + 1) :=
  (turn_ok p pe pq pm S c tl Q n es mc hw.tk hw.mp hn i).mono fun r H' ⟨e, S', Q', n', es', mc', tl', h4, h5, h6, h7⟩ => by
    obtain ⟨rfl, h8, h9⟩ := doq_bad hw h6 h7 hi hx
    exact ⟨S', Q', n', es', mc', tl', h4, h5, h8, h9⟩

end Go.Proofs.Ytljmeemgjbcgeaa
