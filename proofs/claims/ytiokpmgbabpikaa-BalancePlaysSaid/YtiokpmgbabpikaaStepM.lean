/-
  Chapter 48 (balance), part StepM: contracts of functions that the laws call, each for the heap it names.
-/
import Derived.Test.YtiokpmgbabpikaaStepL
import Derived.Test.YtiokpmgbabpikaaChs
set_option linter.unusedVariables false
set_option maxRecDepth 20000
namespace Go.Proofs.Ytiokpmgbabpikaa


theorem LmIs.le {N N2 : Nat} {l : Lm} (h : LmIs N l) (hN : N ≤ N2) : LmIs N2 l := ⟨h.hn, h.n, h.o1, h.o2, fun x hx => by have := h.sh x hx; omega, h.nx, Nat.le_trans h.gv hN, Nat.le_trans h.cl hN⟩
theorem chL_get {k : Nat} {L : List Bk} {nx : Nat} {key : ByteArray} {now i : Nat} {y : Bk} (hw : ∀ y ∈ L, 1 ≤ y.w ∧ y.w ≤ 100) (h : (chL k L nx key (cand L now))[i]? = some y) : ∃ x, L[i]? = some x ∧ y = { x with sh := y.sh } := by
  unfold chL at h
  split at h
  · exact ⟨y, h, rfl⟩
  · unfold drop1 at h
    rw [List.getElem?_set] at h
    split at h
    · rename_i e
      split at h
      · rename_i hl
        obtain ⟨z, hz⟩ := getE (T := bump L (cand L now)) (i := i) (by omega)
        obtain ⟨x, hx, e1, _⟩ := bump_get _ hw hz
        have hg : gB (bump L (cand L now)) (pickI k L nx key (cand L now)) = z := by unfold gB; rw [e, hz]; rfl
        rw [hg] at h
        refine ⟨x, hx, ?_⟩
        cases h; rw [e1]
      · cases h
    · obtain ⟨x, hx, e1, _⟩ := bump_get _ hw h
      exact ⟨x, hx, e1⟩
theorem chN_lt {l : Lm} {now : Nat} (hn : l.L.length = l.n) (hx : l.nx < l.n) : chN l.kd l.n l.nx (cand l.L now) < l.n := by
  unfold chN
  split
  · exact hx
  · rename_i hne
    unfold pickN
    split
    · obtain ⟨j, z, e, hz, _⟩ := cand_mem (turn_mem (nx := l.nx) hne)
      have := (List.getElem?_eq_some_iff.1 hz).1
      exact turnN_lt (by omega) (by omega)
    · exact hx
theorem lm_pick {N : Nat} {l : Lm} (h : LmIs N l) (hw : ∀ y ∈ l.L, 1 ≤ y.w ∧ y.w ≤ 100) {key : ByteArray} {now i : Nat} {lo2 lc2 : Nat} {lt2 : List Value} {co2 : Option Nat} {cc2 : Nat} {ct2 : List Value} {c : Cl} (hil : i < l.n)
    (ow : Own (some lo2) l.n lc2 5 ((chL l.kd l.L l.nx key (cand l.L now)).flatMap encLB) lt2) (oc : Own co2 (l.CL ++ [c]).length cc2 3 ((l.CL ++ [c]).flatMap encCl) ct2) :
    LmIs (N + 1) { l with lo := lo2, lc := lc2, tl := lt2, L := lpS l key now i, nx := chN l.kd l.n l.nx (cand l.L now), gv := l.gv + 1, last := now, co := co2, cc := cc2, ct := ct2, CL := l.CL ++ [c] } := by
  refine ⟨by dsimp only; rw [lpS_len]; exact h.hn, h.n, own_LB ow (by rw [lpS_len, chL_len]), oc, ?_, chN_lt h.hn h.nx, by have := h.gv; dsimp only; omega, by have := h.cl; rw [List.length_append, List.length_singleton]; omega⟩
  intro x hx
  have hsh := chL_sh (k := l.kd) (nx := l.nx) (key := key) (now := now) hw (by have := h.n; have := h.hn; omega)
  have key2 : ∃ y ∈ l.L, y.sh - 6400 ≤ x.sh ∧ x.sh ≤ y.sh + 6400 := by
    have hx : x ∈ lpS l key now i := hx
    unfold lpS at hx
    rcases set_mem hx with rfl | hx
    · obtain ⟨z, hz⟩ := getE (T := chL l.kd l.L l.nx key (cand l.L now)) (i := i) (by rw [chL_len]; have := h.hn; omega)
      obtain ⟨y, hy, b1, b2⟩ := hsh z (List.mem_of_getElem? hz)
      rw [gB_at hz]
      exact ⟨y, hy, b1, b2⟩
    · exact hsh x hx
  obtain ⟨y, hy, b1, b2⟩ := key2
  have := h.sh y hy
  omega
theorem lm_done {N : Nat} {l : Lm} (h : LmIs N l) {now j : Nat} {gn : Int} {good : Bool} (hj : j < l.n) {lo2 lc2 : Nat} {lt2 : List Value} {co2 : Option Nat} {cc2 : Nat} {ct2 : List Value} {A B : List Cl} (hs : (A ++ B).length ≤ l.CL.length)
    (ow : Own (some lo2) l.n lc2 5 (l.L.flatMap encLB) lt2) (oc : Own co2 (A ++ B).length cc2 3 ((A ++ B).flatMap encCl) ct2) :
    LmIs (N + 1) { l with lo := lo2, lc := lc2, tl := lt2, L := doneS l.L now j gn good, last := now, co := co2, cc := cc2, ct := ct2, CL := A ++ B } := by
  refine ⟨by dsimp only; rw [doneS_len]; exact h.hn, h.n, own_LB ow (doneS_len ..), oc, ?_, h.nx, Nat.le_succ_of_le h.gv, by have := h.cl; dsimp only; omega⟩
  intro x hx
  have hx : x ∈ doneS l.L now j gn good := hx
  unfold doneS at hx
  rcases set_mem hx with rfl | hx
  · obtain ⟨z, hz⟩ := getE (T := l.L) (i := j) (by have := h.hn; omega)
    have := h.sh z (List.mem_of_getElem? hz)
    rw [gB_at hz]; dsimp only; omega
  · have := h.sh x hx; omega
theorem lm_setup {N : Nat} {l : Lm} (h : LmIs N l) {i : Nat} (hi : i < l.n) {up : Bool} {lo2 lc2 : Nat} {lt2 : List Value} (ow : Own (some lo2) l.n lc2 5 (l.L.flatMap encLB) lt2) :
    LmIs (N + 1) { l with lo := lo2, lc := lc2, tl := lt2, L := l.L.set i { gB l.L (i : Int) with up := up } } := by
  refine ⟨by dsimp only; rw [List.length_set]; exact h.hn, h.n, own_LB ow List.length_set, h.o2, ?_, h.nx, Nat.le_succ_of_le h.gv, Nat.le_succ_of_le h.cl⟩
  intro x hx
  rcases set_mem (show x ∈ l.L.set i _ from hx) with rfl | hx
  · obtain ⟨z, hz⟩ := getE (T := l.L) (i := i) (by have := h.hn; omega)
    have := h.sh z (List.mem_of_getElem? hz)
    rw [gB_at hz]; dsimp only; omega
  · have := h.sh x hx; omega
theorem bp_any {N : Nat} {m : Bm} {s : BS} (h : BIs N m s) (hN : N ≤ 9000) (now : Nat) (key : ByteArray) (hk : key.size ≤ 64) (h1 : s.last ≤ now) (h2 : now ≤ 18446744073709551614) : Spec Try.prog 12 [ptrB m.p, .int .u64 (now : Int), .string key] (balH m)
    (fun r H' => ∃ m' s', H' = balH m' ∧ m'.p = m.p ∧ BIs (N + 1) m' s' ∧ s'.last ≤ now ∧ s'.V.length = s.V.length) := by
  by_cases hc : s.cand now = []
  · exact (bpn_ok h hN now key hk h1 h2 hc).mono fun r H' ⟨_, e⟩ => ⟨m, s, e, rfl, h.le (Nat.le_succ N), h1, rfl⟩
  · exact (bp_ok h hN now key hk h1 h2 hc).mono fun r H' ⟨m', _, e1, e2, e3⟩ => ⟨m', _, e1, e2, e3, Nat.le_refl _, pick_len s key now⟩
theorem bd_any {N : Nat} {m : Bm} {s : BS} (h : BIs N m s) (hN : N ≤ 9000) (now : Nat) (n : Int) (good : Bool) (h1 : s.last ≤ now) (h2 : now ≤ 18446744073709551614) : Spec Try.prog 18 [ptrB m.p, .int .u64 (now : Int), .int .i64 n, .bool good] (balH m)
    (fun r H' => ∃ m', H' = balH m') := by
  by_cases hc : n ∈ s.C.map (·.1)
  · obtain ⟨⟨n', j, gn⟩, hx, rfl⟩ := List.mem_map.1 hc
    have hbk := h.is.bk _ hx
    dsimp only at hbk
    obtain ⟨jn, rfl⟩ := Int.eq_ofNat_of_zero_le hbk.1
    exact (bd_ok h hN now n' good h1 h2 jn gn hx).mono fun r H' ⟨m', _, e, _⟩ => ⟨m', e⟩
  · have hlast := h.last
    refine ((((bdone_none m N s.C h.is now n good (by omega) h2 hc).fr (bE2 m :: bks m.L)).perm ?_).mono ?_).re
    · exact (List.Perm.cons _ (List.Perm.swap _ _ _))
    · rintro r H' ⟨H1, ⟨_, rfl⟩, rfl⟩
      exact ⟨balH m, (List.Perm.cons _ (List.Perm.swap _ _ _)), m, rfl⟩

end Go.Proofs.Ytiokpmgbabpikaa
