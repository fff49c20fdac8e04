/-
  Chapter 03 (timer), part FullL: contracts of functions that the laws call, each for the heap it names.
-/
import Derived.Test.YtbaagjiailmlhaaKnown
set_option linter.unusedVariables false
set_option maxRecDepth 20000
namespace Go.Proofs.Ytbaagjiailmlhaa


def mk (j : Nat) : Tm := ⟨j, 0, (j : Int), j % 5, false, j + 1⟩
def fl (k : Nat) : List Tm := (List.range k).map mk
theorem fl_succ (k : Nat) : fl (k + 1) = fl k ++ [mk k] := by rw [fl, fl, List.range_succ, List.map_append]; rfl
theorem fl_mem {k : Nat} {t : Tm} : t ∈ fl k ↔ ∃ j, j < k ∧ mk j = t := by
  rw [fl, List.mem_map]
  constructor
  · rintro ⟨j, hj, e⟩; exact ⟨j, List.mem_range.1 hj, e⟩
  · rintro ⟨j, hj, e⟩; exact ⟨j, List.mem_range.2 hj, e⟩
theorem fl_live (k : Nat) : live (fl k) = fl k := List.filter_eq_self.2 fun t ht => by obtain ⟨j, _, rfl⟩ := fl_mem.1 ht; rfl
theorem fl_len (k : Nat) : (live (fl k)).length = k := by rw [fl_live, fl, List.length_map, List.length_range]
theorem fl_cnt0 (k : Nat) : cnt (fl k) k = 0 := by
  rw [cnt, List.countP_eq_zero]
  intro t ht
  obtain ⟨j, hj, rfl⟩ := fl_mem.1 ht
  have : j ≠ k := by omega
  simp [mk, this]
theorem fl_cnt1 {k n : Nat} (h : n < k) : cnt (fl k) n = 1 := by
  induction k with
  | zero => omega
  | succ k ih =>
    rw [fl_succ, cnt_snoc]
    by_cases e : k = n
    · subst e; rw [fl_cnt0]; simp [mk]
    · rw [ih (by omega)]; simp [mk, e]
theorem fl_free (k : Nat) : IsFree (wl (fl k)) k := by
  refine ⟨fun w hw => ?_, fun j hj => ⟨toW (mk j), mem_wl.2 ⟨mk j, fl_mem.2 ⟨j, hj, rfl⟩, rfl, rfl⟩, rfl⟩⟩
  obtain ⟨t, ht, _, rfl⟩ := mem_wl.1 hw
  obtain ⟨j, hj, rfl⟩ := fl_mem.1 ht
  show j ≠ k
  omega
theorem fl_free2 {k n : Nat} (h : n < k) : IsFree (wl (rmL (fl k) n)) n := by
  refine ⟨fun w hw => ?_, fun j hj => ⟨toW (mk j), mem_wl.2 ⟨mk j, List.mem_map.2 ⟨mk j, fl_mem.2 ⟨j, by omega, rfl⟩, ?_⟩, rfl, rfl⟩, rfl⟩⟩
  · obtain ⟨t, ht, hg, rfl⟩ := mem_wl.1 hw
    obtain ⟨u, hu, rfl⟩ := List.mem_map.1 ht
    rw [rm1_gone, Bool.or_eq_false_iff] at hg
    show (rm1 n u).n ≠ n
    rw [rm1_n]
    exact of_decide_eq_false hg.2
  · unfold rm1
    rw [if_neg]
    rintro ⟨_, e⟩
    have : j = n := e
    omega
theorem fl_none {k n : Nat} (own : Int) (tm sq : Nat) : ¬ ∃ t ∈ rmL (fl k) n ++ [⟨n, 1, own, tm, false, sq⟩], t.gone = false ∧ (t.n : Int) = (n : Int) ∧ (t.gen : Int) = 0 := by
  rintro ⟨t, ht, hg, hn, hz⟩
  rcases List.mem_append.1 ht with ht | ht
  · obtain ⟨u, hu, rfl⟩ := List.mem_map.1 ht
    rw [rm1_gone, Bool.or_eq_false_iff] at hg
    rw [rm1_n] at hn
    exact of_decide_eq_false hg.2 (by omega)
  · rw [List.mem_singleton] at ht
    subst ht
    dsimp only at hz
    omega
theorem sets_c (L : List Tm) (m : TmM) (ht : TIs L m) (hroom : (live L).length < 1024) (hb : m.g.n + 1 < 9000000000000000000) (f : Nat) (hf : IsFree (wl L) f) (c : Nat) (hc : cnt L f = c) (k : Nat) (hk : k < 18446744073709551615) (own : Int) : Spec Try.prog 14 [ptrH m.pt, .int .u64 (k : Int), .int .i64 own, .agg #[.int .i64 (f : Int), .int .i64 (c : Int)]] (tmH m)
    (fun r H' => ∃ m' : TmM, r = .bool true ∧ H' = tmH m' ∧ m'.pt = m.pt ∧ m'.g.n = m.g.n + 1 ∧ TIs (L ++ [⟨f, c, own, k, false, m.g.n + 1⟩]) m') := by
  subst hc
  exact sets_ok L m ht hroom hb f hf k hk own
theorem mset_fl (i : Nat) (m : TmM) (ht : TIs (fl (min i 1024)) m) (hn : m.g.n = min i 1024) : Spec Try.prog 10 [ptrH m.pt, .int .u64 ((i % 5 : Nat) : Int), .int .i64 (i : Int)] (tmH m)
    (fun r H' => ∃ (m' : TmM) (a e : Int), r = .tuple #[.agg #[.int .i64 a, .int .i64 0], .int .i64 e] ∧ H' = tmH m' ∧ (i < 1024 → a = (i : Int) ∧ e = 0) ∧ (1024 ≤ i → a = 0 ∧ e = 7) ∧ m'.pt = m.pt ∧ m'.g.n = min (i + 1) 1024 ∧ TIs (fl (min (i + 1) 1024)) m') := by
  by_cases h : i < 1024
  · rw [Nat.min_eq_left (by omega)] at ht hn
    rw [Nat.min_eq_left (by omega : i + 1 ≤ 1024)]
    refine (mset_ok (fl i) m ht (by rw [fl_len]; exact h) (by omega) i (fl_free i) (i % 5) (by omega) i).mono fun r H' ⟨m', e1, e2, e3, e4, e5⟩ => ⟨m', i, 0, ?_, e2, fun _ => ⟨rfl, rfl⟩, fun h2 => by omega, e3, by rw [e4, hn], ?_⟩
    · rw [e1, fl_cnt0]; rfl
    · rw [fl_succ]; rw [hn, fl_cnt0] at e5; exact e5
  · rw [Nat.min_eq_right (by omega)] at ht hn
    rw [Nat.min_eq_right (by omega : 1024 ≤ i + 1)]
    exact (mset_full (fl 1024) m ht (by rw [fl_len]; exact Nat.le_refl _) (i % 5) (by omega) i).mono fun r H' ⟨e1, e2⟩ => ⟨m, 0, 7, e1, e2, fun h2 => by omega, fun _ => ⟨rfl, rfl⟩, rfl, hn, ht⟩
structure FW where
  i : Nat
  m : TmM

end Go.Proofs.Ytbaagjiailmlhaa
