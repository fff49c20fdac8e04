/-
  Chapter 48 (balance), part BalM: contracts of functions that the laws call, each for the heap it names.
-/
import Derived.Test.YtiokpmgbabpikaaRows
import Derived.Test.YtiokpmgbabpikaaZSLOpt
import Derived.Test.YtiokpmgbabpikaaTab
import Derived.Test.YtiokpmgbabpikaaBal2
set_option linter.unusedVariables false
set_option maxRecDepth 20000
set_option maxHeartbeats 1000000
namespace Go.Proofs.Ytiokpmgbabpikaa


/-! ### Calls of a breaker that lies in the chunk -/
theorem Fit.la {b : Br} (h : Fit b) : b.opened ≤ b.last := h.tm.1
theorem may0 {b : Br} {now : Nat} (h1 : b.last ≤ now) (h2 : now ≤ 18446744073709551614) : mayE b now = 0 := by unfold mayE; rw [if_neg (by omega)]
theorem ready_at {L : List Bk} {i : Nat} {x : Bk} (hx : L[i]? = some x) (hf : Fit x.b) (now : Nat) (h1 : x.b.last ≤ now) (h2 : now ≤ 18446744073709551614) :
    Spec Try.prog 30 [ptrB x.p, .int .u64 (now : Int)] (bks L) (fun r H' => r = .tuple #[.bool (decide (rdB x.b now)), .int .i64 0] ∧ H' = bks L) := by
  refine (Spec.bk hx (Q := fun r b' => b' = x.b ∧ r = .tuple #[.bool (decide (rdB x.b now)), .int .i64 0]) ((bk_readyF_ok x.b hf.l hf.la now x.p (by omega)).mono ?_)).mono ?_
  · rintro r H' ⟨s, e, hr, hH, h⟩
    rcases h with ⟨h, _⟩ | ⟨_, rfl, rfl⟩
    · exact absurd (may0 h1 h2) h
    · exact ⟨x.b, hH, rfl, hr⟩
  · rintro r H' ⟨b', hH, rfl, hr⟩
    exact ⟨hr, hH.trans (congrArg bks (set_same hx))⟩
theorem allow_at {L : List Bk} {i : Nat} {x : Bk} (hx : L[i]? = some x) (hf : Fit x.b) (now : Nat) (h1 : x.b.last ≤ now) (h2 : now ≤ 18446744073709551614) (hr : rdB x.b now) :
    Spec Try.prog 25 [ptrB x.p, .int .u64 (now : Int)] (bks L) (fun r H' => r = .tuple #[.int .i64 (alB x.b now).gen, .int .i64 0] ∧ H' = bks (L.set i { x with b := alB x.b now })) := by
  refine (Spec.bk hx (Q := fun r b' => b' = alB x.b now ∧ r = .tuple #[.int .i64 (alB x.b now).gen, .int .i64 0]) ((bk_allow_ok x.b hf.l hf.g hf.a hf.la now x.p (by omega)).mono ?_)).mono ?_
  · rintro r H' ⟨b', n, e, hr', hH, h⟩
    rcases h with ⟨h, _⟩ | ⟨_, h, _⟩ | ⟨_, _, rfl, rfl, rfl⟩
    · exact absurd (may0 h1 h2) h
    · exact absurd hr h
    · exact ⟨_, hH, rfl, hr'⟩
  · rintro r H' ⟨b', hH, rfl, hr⟩
    exact ⟨hr, hH⟩
/-- What Done makes of a breaker, for a generation that it gave. -/
def dnK (b : Br) (now : Nat) (gn : Int) (good : Bool) : Br := if gn = b.gen then dnB b now good else ⟨b.limit, b.probes, b.opn, now, b.gen, b.st, b.opened, b.failed, b.allowed, b.good⟩
theorem done_at {L : List Bk} {i : Nat} {x : Bk} (hx : L[i]? = some x) (hf : Fit x.b) (now : Nat) (h1 : x.b.last ≤ now) (h2 : now ≤ 18446744073709551614) (gn : Int) (hg : 0 ≤ gn ∧ gn ≤ x.b.gen) (good : Bool) :
    Spec Try.prog 29 [ptrB x.p, .int .u64 (now : Int), .int .i64 gn, .bool good] (bks L) (fun r H' => r = .int .i64 0 ∧ H' = bks (L.set i { x with b := dnK x.b now gn good })) := by
  refine (Spec.bk hx (Q := fun r b' => b' = dnK x.b now gn good ∧ r = .int .i64 0) ((bk_done_ok x.b hf.l hf.g hf.f hf.gd now x.p gn good).mono ?_)).mono ?_
  · rintro r H' ⟨b', e, hr', hH, h⟩
    rcases h with ⟨h, _⟩ | ⟨_, h, _⟩ | ⟨_, _, h, rfl, rfl⟩ | ⟨_, h, rfl, rfl⟩
    · exact absurd (may0 h1 h2) h
    · omega
    · exact ⟨_, hH, by unfold dnK; rw [if_neg (by omega)], hr'⟩
    · exact ⟨_, hH, by unfold dnK; rw [if_pos h], hr'⟩
  · rintro r H' ⟨b', hH, rfl, hr⟩
    exact ⟨hr, hH⟩
theorem copy_at {L : List Bk} {i : Nat} {x : Bk} (hx : L[i]? = some x) (hf : Fit x.b) :
    Spec Try.prog 33 [ptrB x.p] (bks L) (fun r H' => ∃ p2, r = ptrB p2 ∧ H' = bkE { x with p := p2 } :: bks L) := by
  obtain ⟨A, B, rfl, rfl⟩ := split_at hx
  refine Spec.re (((((bk_copy_ok x.b hf.l x.p)).fr (bks A ++ bks B)).perm ?_).mono ?_)
  · unfold bks
    rw [List.map_append, List.map_cons]
    exact List.perm_middle
  · rintro r H' ⟨H1, ⟨p2, rfl, rfl⟩, rfl⟩
    refine ⟨_, ?_, p2, rfl, rfl⟩
    unfold bks
    rw [List.map_append, List.map_cons]
    show (bkE { x with p := p2 } :: bkE x :: (List.map bkE A ++ List.map bkE B)).Perm _
    exact List.Perm.cons _ List.perm_middle.symm
/-! ### The choice -/
theorem turn_mem {nx : Nat} {l : List Int} (hl : l ≠ []) : turnI nx l ∈ l := by
  have h1 := idxF_in (fun i => decide ((nx : Int) ≤ i)) l
  have h2 : 0 < l.length := by cases l; exact absurd rfl hl; simp
  obtain ⟨a, ha⟩ := getE (T := l) (i := (max 0 (idxF (fun i => decide ((nx : Int) ≤ i)) l)).toNat) (by omega)
  unfold turnI
  rw [ha]
  exact List.mem_of_getElem? ha
theorem pickI_mem (k : Nat) (L : List Bk) (nx : Nat) (key : ByteArray) {l : List Int} (hl : l ≠ []) : pickI k L nx key l ∈ l := by
  unfold pickI
  split
  · exact turn_mem hl
  · split
    · exact sel_mem _ hl
    · split
      · exact sel_mem _ hl
      · exact sel_mem _ hl
theorem bks_bump1 (L : List Bk) (a : Int) : bks (bump1 L a) = bks L := by
  unfold bump1
  by_cases h : a.toNat < L.length
  · have hx : L[a.toNat]? = some L[a.toNat] := List.getElem?_eq_getElem h
    exact bks_set hx (by unfold gB; rw [hx]; rfl) (by unfold gB; rw [hx]; rfl)
  · rw [List.set_eq_of_length_le (by omega)]
theorem bks_bump (l : List Int) : ∀ L : List Bk, bks (bump L l) = bks L := by
  induction l with
  | nil => intro L; rfl
  | cons a r ih => intro L; exact (ih (bump1 L a)).trans (bks_bump1 L a)
theorem bks_drop1 (L : List Bk) (a s : Int) : bks (drop1 L a s) = bks L := by
  unfold drop1
  by_cases h : a.toNat < L.length
  · have hx : L[a.toNat]? = some L[a.toNat] := List.getElem?_eq_getElem h
    exact bks_set hx (by unfold gB; rw [hx]; rfl) (by unfold gB; rw [hx]; rfl)
  · rw [List.set_eq_of_length_le (by omega)]
theorem pickL_bks (k : Nat) (L : List Bk) (l : List Int) : bks (pickL k L l) = bks L := by
  unfold pickL
  split
  · rw [bks_drop1, bks_bump]
  · rfl
theorem pickL_len (k : Nat) (L : List Bk) (l : List Int) : (pickL k L l).length = L.length := by
  unfold pickL
  split
  · unfold drop1; rw [List.length_set, bump_len]
  · rfl
theorem pickL_get {k : Nat} {L : List Bk} {l : List Int} {i : Nat} {x : Bk} (hw : ∀ y ∈ L, 1 ≤ y.w ∧ y.w ≤ 100) (hin : ∀ a ∈ l, ∃ (i : Nat) (x : Bk), a = (i : Int) ∧ L[i]? = some x) (h : (pickL k L l)[i]? = some x) :
    ∃ y, L[i]? = some y ∧ x = { y with sh := x.sh } ∧ y.sh - 100 * (l.length : Int) ≤ x.sh ∧ x.sh ≤ y.sh + 100 * (l.length : Int) := by
  unfold pickL at h
  split at h
  · unfold drop1 at h
    rw [List.getElem?_set] at h
    split at h
    · rename_i e
      split at h
      · rename_i hl
        obtain ⟨z, hz⟩ := getE (T := bump L l) (i := i) (by omega)
        obtain ⟨y, hy, e1, b1, b2⟩ := bump_get l hw hz
        have hs := sumW_in L hw l hin
        have hg : gB (bump L l) (weiI (bump L l) l) = z := by unfold gB; rw [e, hz]; rfl
        rw [hg] at h
        refine ⟨y, hy, ?_, ?_, ?_⟩
        · cases h; rw [e1]
        · cases h; dsimp only; omega
        · cases h; dsimp only; omega
      · cases h
    · obtain ⟨y, hy, e1, b1, b2⟩ := bump_get l hw h
      exact ⟨y, hy, e1, by omega, by omega⟩
  · exact ⟨x, h, rfl, by omega, by omega⟩
theorem choose_ok (m : Bm) (N : Nat) (C : List Cl) (hm : BalIs N m C) (hN : N ≤ 10000) (l : List Int) (o : Option Nat) (c : Nat) (tl : List Value) (own : Own o l.length c 1 (ivs l) tl) (hl : 1 ≤ l.length) (hb : l.length ≤ 64) (hin : ∀ a ∈ l, ∃ (i : Nat) (x : Bk), a = (i : Int) ∧ m.L[i]? = some x) (key : ByteArray) (hk : key.size ≤ 1000) :
    Spec Try.prog (pickF m.k) [ptrB m.p, slV o l.length c, .string key] [bE1 m, bE2 m, ⟨o, cl (ivs l ++ tl) 3⟩] (fun r H' => r = .int .i64 (pickI m.k m.L m.nx key l) ∧ H' = [bE1 { m with nx := pickN m.k m.n m.nx l }, bE2 { m with L := pickL m.k m.L l }]) := by
  have hk4 := hm.k
  have h4 : m.k = 1 ∨ m.k = 2 ∨ m.k = 3 ∨ m.k = 4 := by omega
  have hnn := hm.n
  rcases h4 with e | e | e | e
  · rw [show pickF m.k = 34 by rw [e]; rfl, show pickI m.k m.L m.nx key l = turnI m.nx l by rw [e]; rfl, show pickL m.k m.L l = m.L by rw [e]; rfl, show pickN m.k m.n m.nx l = turnN m.n (turnI m.nx l) by rw [e]; rfl]
    exact (bturns_ok m hm.hn hnn.2 l o c tl own hl hb hin key).mono fun r H' ⟨nx', e1, e2, e3⟩ => by subst e1; exact ⟨e2, e3⟩
  · rw [show pickF m.k = 35 by rw [e]; rfl, show pickI m.k m.L m.nx key l = leastI m.L l by rw [e]; rfl, show pickL m.k m.L l = m.L by rw [e]; rfl, show pickN m.k m.n m.nx l = m.nx by rw [e]; rfl]
    exact bleast_ok m N C hm hN l o c tl own hl hb hin key
  · rw [show pickF m.k = 36 by rw [e]; rfl, show pickI m.k m.L m.nx key l = weiI (bump m.L l) l by rw [e]; rfl, show pickL m.k m.L l = drop1 (bump m.L l) (weiI (bump m.L l) l) (sumW m.L l) by rw [e]; rfl, show pickN m.k m.n m.nx l = m.nx by rw [e]; rfl]
    exact bwei_ok m N C hm hN l o c tl own hl hb hin key
  · rw [show pickF m.k = 37 by rw [e]; rfl, show pickI m.k m.L m.nx key l = hashI key l by rw [e]; rfl, show pickL m.k m.L l = m.L by rw [e]; rfl, show pickN m.k m.n m.nx l = m.nx by rw [e]; rfl]
    exact bhash_ok m l o c tl own hl hb key hk

end Go.Proofs.Ytiokpmgbabpikaa
