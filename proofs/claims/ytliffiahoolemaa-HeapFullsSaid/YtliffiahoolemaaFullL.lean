/-
  Chapter 02 (heap), part FullL: contracts of functions that the laws call, each for the heap it names.
-/
import Derived.Test.YtliffiahoolemaaKnown
set_option linter.unusedVariables false
set_option maxRecDepth 20000
namespace Go.Proofs.Ytliffiahoolemaa


def mk (j : Nat) : WE := ⟨j, (j : Int), j % 7, j + 1⟩
def fl (k : Nat) : List WE := (List.range k).map mk
theorem fl_succ (k : Nat) : fl (k + 1) = fl k ++ [mk k] := by rw [fl, fl, List.range_succ, List.map_append]; rfl
theorem fl_mem {k : Nat} {t : WE} : t ∈ fl k ↔ ∃ j, j < k ∧ mk j = t := by
  rw [fl, List.mem_map]
  constructor
  · rintro ⟨j, hj, e⟩; exact ⟨j, List.mem_range.1 hj, e⟩
  · rintro ⟨j, hj, e⟩; exact ⟨j, List.mem_range.2 hj, e⟩
theorem fl_len (k : Nat) : (fl k).length = k := by rw [fl, List.length_map, List.length_range]
theorem fl_free (k : Nat) : IsFree (fl k) k := by
  refine ⟨fun w hw => ?_, fun j hj => ⟨mk j, fl_mem.2 ⟨j, hj, rfl⟩, rfl⟩⟩
  obtain ⟨j, hj, rfl⟩ := fl_mem.1 hw
  show j ≠ k
  omega
theorem fl_free2 {k n : Nat} (h : n < k) : IsFree (wremove (fl k) n) n := by
  refine ⟨fun w hw => ?_, fun j hj => ⟨mk j, List.mem_filter.2 ⟨fl_mem.2 ⟨j, by omega, rfl⟩, decide_eq_true (show j ≠ n by omega)⟩, rfl⟩⟩
  exact of_decide_eq_true (List.mem_filter.1 hw).2
theorem fl_rm {k n : Nat} (h : n < k) : (wremove (fl k) n).length < k := by
  have h1 : (wremove (fl k) n).length ≤ (fl k).length := List.length_filter_le _ _
  have h2 : (wremove (fl k) n).length ≠ (fl k).length := fun e => by
    have := List.length_filter_eq_length_iff.1 e (mk n) (fl_mem.2 ⟨n, h, rfl⟩)
    exact of_decide_eq_true this rfl
  rw [fl_len] at h1 h2; omega
theorem hpush_fl (i : Nat) (g : HM) (hg : HIs (fl (min i 1024)) g) (hn : g.n = min i 1024) : Spec Try.prog 10 [ptrH g.p, .int .u64 ((i % 7 : Nat) : Int), .int .i64 (i : Int)] (gH g)
    (fun r H' => ∃ (g' : HM) (a e : Int), r = .tuple #[.int .i64 a, .int .i64 e] ∧ H' = gH g' ∧ (i < 1024 → a = (i : Int) ∧ e = 0) ∧ (1024 ≤ i → a = 0 ∧ e = 7) ∧ g'.p = g.p ∧ g'.n = min (i + 1) 1024 ∧ HIs (fl (min (i + 1) 1024)) g') := by
  by_cases h : i < 1024
  · rw [Nat.min_eq_left (by omega)] at hg hn
    rw [Nat.min_eq_left (by omega : i + 1 ≤ 1024)]
    refine (hpush_ok g (fl i) hg (by rw [fl_len]; exact h) (by omega) i (fl_free i) (i % 7) i).mono fun r H' ⟨g', e1, e2, e3, e4, e5⟩ => ⟨g', i, 0, e1, e2, fun _ => ⟨rfl, rfl⟩, fun h2 => by omega, e3, by rw [e4, hn], ?_⟩
    rw [fl_succ]; rw [hn] at e5; exact e5
  · rw [Nat.min_eq_right (by omega)] at hg hn
    rw [Nat.min_eq_right (by omega : 1024 ≤ i + 1)]
    exact (hpush_no g (fl 1024) hg (by rw [fl_len]; exact Nat.le_refl _) (i % 7) i).mono fun r H' ⟨e1, e2⟩ => ⟨g, 0, 7, e1, e2, fun h2 => by omega, fun _ => ⟨rfl, rfl⟩, rfl, hn, hg⟩
structure FW where
  i : Nat
  g : HM

end Go.Proofs.Ytliffiahoolemaa
