/-
  Chapter 47 (backoff), part HoldL: contracts of functions that the laws call, each for the heap it names.
-/
import Derived.Test.YtafjfllcebdjdaaRows
import Derived.Test.YtafjfllcebdjdaaSLMarks
import Derived.Test.YtafjfllcebdjdaaSLInt
import Derived.Test.YtafjfllcebdjdaaSLBirth
import Derived.Test.YtafjfllcebdjdaaTab
import Derived.Test.YtafjfllcebdjdaaLaws
set_option linter.unusedVariables false
set_option maxRecDepth 20000
set_option maxHeartbeats 1000000
namespace Go.Proofs.Ytafjfllcebdjdaa


def plain (p : Plan) : Plan := ⟨p.base, p.most, p.num, p.den, p.tries, 0, p.seed⟩
theorem plain_ok {p : Plan} (h : OkP p) : OkP (plain p) := by
  obtain ⟨q1, q2, q3, q4, q5, q6, q7, q8, q9, q10⟩ := h
  exact ⟨q1, q2, q3, q4, q5, q6, q7, q8, Int.le_refl _, by simp [plain]⟩
theorem full_plain (p : Plan) : ∀ n, fullN (plain p) n = fullN p n
  | 0 => rfl
  | n + 1 => by simp only [fullN, full_plain p n]; rfl
theorem delay_plain (p : Plan) (n : Nat) : delayN (plain p) (n + 1) = fullN p n := by
  simp only [delayN, lessN, full_plain]
  simp [plain]
theorem delay_le (p : Plan) : ∀ k, delayN p k ≤ delayN (plain p) k
  | 0 => Nat.le_refl _
  | n + 1 => by rw [delay_plain]; exact Nat.sub_le _ _
theorem full_most {p : Plan} (hp : OkP p) : ∀ n, fullN p n ≤ p.most
  | 0 => hp.2.1
  | n + 1 => Nat.min_le_left _ _
theorem full_mono {p : Plan} (hp : OkP p) (n : Nat) : fullN p n ≤ fullN p (n + 1) := by
  have h1 := full_most hp n
  obtain ⟨q1, q2, q3, q4, q5, q6, q7, q8, q9, q10⟩ := hp
  have h2 : fullN p n ≤ fullN p n * p.num.toNat / p.den.toNat := by
    rw [Nat.le_div_iff_mul_le (by omega)]
    exact Nat.mul_le_mul_left _ (by omega)
  simp only [fullN]; omega
theorem delay_most {p : Plan} (hp : OkP p) : ∀ k, delayN (plain p) k ≤ p.most
  | 0 => Nat.zero_le _
  | n + 1 => by rw [delay_plain]; exact full_most hp n
theorem delay_mono {p : Plan} (hp : OkP p) : ∀ k, 0 < k → delayN (plain p) (k - 1) ≤ delayN (plain p) k
  | 0, h => by omega
  | 1, _ => Nat.zero_le _
  | n + 2, _ => by rw [show n + 2 - 1 = n + 1 from rfl, delay_plain, delay_plain]; exact full_mono hp n
theorem all_plain (p : Plan) (hp : OkP p) (hs : p.seed < 4294967296) : Spec Try.prog 9 [.agg (pl (plain p)).toArray] [] (fun r H' => ∃ ob c tl, r = .tuple #[slV ob p.tries.toNat c, .int .i64 0] ∧ Own ob p.tries.toNat c 1 (tmV ((dlTo (plain p) p.tries.toNat).map (·.2))) tl ∧ H' = [⟨ob, cl (tmV ((dlTo (plain p) p.tries.toNat).map (·.2)) ++ tl) 23⟩]) :=
  all_ok (plain p) (plain_ok hp) hs
/-! the breaker's way -/
def lpB (lm : Int) (q o : Nat) (i : Nat) : Br := if (i : Int) < lm then ⟨lm, ((q + 1 : Nat) : Int), o, 0, 0, 0, 0, (i : Int), 0, 0⟩ else ⟨lm, ((q + 1 : Nat) : Int), o, 0, 1, 1, 0, 0, 0, 0⟩
def oB (lm : Int) (q o : Nat) (i : Nat) : Br := ⟨lm, ((q + 1 : Nat) : Int), o, o * i, ((2 * i + 1 : Nat) : Int), 1, o * i, 0, 0, 0⟩
def hfB (lm : Int) (q o : Nat) (i : Nat) : Br := ⟨lm, ((q + 1 : Nat) : Int), o, o * i + o, ((2 * i + 2 : Nat) : Int), 2, 0, 0, 1, 0⟩
def aB (lm : Int) (q o m : Nat) : Nat → Br
  | 0 => oB lm q o m
  | i + 1 => ⟨lm, ((q + 1 : Nat) : Int), o, o * m + o, ((2 * m + 2 : Nat) : Int), 2, 0, 0, ((i + 1 : Nat) : Int), 0⟩
def gA (m : Nat) : Nat → Int
  | 0 => 0
  | _ + 1 => ((2 * m + 2 : Nat) : Int)
def cB (lm : Int) (q o m : Nat) (i : Nat) : Br := if i < q + 1 then ⟨lm, ((q + 1 : Nat) : Int), o, o * m + o, ((2 * m + 2 : Nat) : Int), 2, 0, 0, ((q + 1 : Nat) : Int), (i : Int)⟩ else ⟨lm, ((q + 1 : Nat) : Int), o, o * m + o, ((2 * m + 3 : Nat) : Int), 0, 0, 0, 0, 0⟩
theorem allow_run (b b' : Br) (now p : Nat) (n : Int) (hl : 1 ≤ b.limit) (hg : b.gen ≤ 1000000 ∧ 0 ≤ b.gen) (ha : 0 ≤ b.allowed ∧ b.allowed ≤ 1000) (ho : b.opened ≤ b.last) (hn : now ≤ 18446744073709551615) (h1 : mayE b now = 0) (h2 : rdB b now) (h3 : alB b now = b') (h4 : b'.gen = n) :
    Spec Try.prog 18 [ptr p, .int .u64 (now : Int)] [⟨some p, cl (brV b) 64⟩] (fun r H' => r = .tuple #[.int .i64 n, .int .i64 0] ∧ H' = [⟨some p, cl (brV b') 64⟩]) :=
  (allow_ok b hl hg ha ho now p hn).mono fun r H' ⟨c, n', e, hr, hH, h⟩ => by
    rcases h with ⟨h, _⟩ | ⟨_, h, _⟩ | ⟨_, _, e1, e2, e3⟩
    · exact absurd h1 h
    · exact absurd h2 h
    · subst h3; subst e3; subst e1; subst e2; subst h4; exact ⟨hr, hH⟩
theorem state_run (b : Br) (now p : Nat) (s : Int) (hl : 1 ≤ b.limit) (ho : b.opened ≤ b.last) (hn : now ≤ 18446744073709551615) (h1 : mayE b now = 0) (h2 : stB b now = s) :
    Spec Try.prog 21 [ptr p, .int .u64 (now : Int)] [⟨some p, cl (brV b) 64⟩] (fun r H' => r = .tuple #[.int .i64 s, .int .i64 0] ∧ H' = [⟨some p, cl (brV b) 64⟩]) :=
  (stateF_ok b hl ho now p hn).mono fun r H' ⟨s', e, hr, hH, h⟩ => by
    rcases h with ⟨h, _⟩ | ⟨_, e1, e2⟩
    · exact absurd h1 h
    · subst h2; subst e1; subst e2; exact ⟨hr, hH⟩
theorem mul_room {o i : Nat} (ho : o ≤ 4294967296) (hi : i ≤ 40) : o * i ≤ 4294967296 * 40 := Nat.mul_le_mul ho hi
theorem new_lp (lm : Int) (q o : Nat) (hr : OkR lm ((q + 1 : Nat) : Int) o) : Spec Try.prog 17 [.int .i64 lm, .int .i64 ((q + 1 : Nat) : Int), .int .u64 (o : Int)] [] (fun r H' => ∃ p, r = .tuple #[ptr p, .int .i64 0] ∧ H' = [⟨some p, cl (brV (lpB lm q o 0)) 64⟩]) :=
  (new_ok lm _ o hr).mono fun r H' ⟨p, h1, h2⟩ => ⟨p, h1, by rw [h2, lpB, if_pos (by obtain ⟨h1, _⟩ := hr; omega)]; rfl⟩
theorem allow_l (lm : Int) (q o : Nat) (hr : OkR lm ((q + 1 : Nat) : Int) o) (p i : Nat) (hi : (i : Int) < lm) : Spec Try.prog 18 [ptr p, .int .u64 0] [⟨some p, cl (brV (lpB lm q o i)) 64⟩] (fun r H' => r = .tuple #[.int .i64 0, .int .i64 0] ∧ H' = [⟨some p, cl (brV (lpB lm q o i)) 64⟩]) := by
  obtain ⟨h1, h2, h3, h4, h5, h6⟩ := hr
  have e : lpB lm q o i = ⟨lm, ((q + 1 : Nat) : Int), o, 0, 0, 0, 0, (i : Int), 0, 0⟩ := if_pos hi
  rw [e]
  exact allow_run _ _ 0 p 0 h1 ⟨by simp, by simp⟩ ⟨by simp, by simp⟩ (Nat.le_refl _) (by simp) (by simp [mayE]) (by simp [rdB, stB]) (by simp [alB, stB]) rfl
theorem done_l (lm : Int) (q o : Nat) (hr : OkR lm ((q + 1 : Nat) : Int) o) (p i : Nat) (hi : (i : Int) < lm) : Spec Try.prog 19 [ptr p, .int .u64 0, .int .i64 0, .bool false] [⟨some p, cl (brV (lpB lm q o i)) 64⟩] (fun r H' => r = .int .i64 0 ∧ H' = [⟨some p, cl (brV (lpB lm q o (i + 1))) 64⟩]) := by
  obtain ⟨h1, h2, h3, h4, h5, h6⟩ := hr
  have e : lpB lm q o i = ⟨lm, ((q + 1 : Nat) : Int), o, 0, 0, 0, 0, (i : Int), 0, 0⟩ := if_pos hi
  rw [e]
  refine done_run _ _ 0 p false h1 ⟨by simp, by simp⟩ ⟨by dsimp only; omega, by dsimp only; omega⟩ ⟨by simp, by simp⟩ (by simp [mayE]) ?_ 0 rfl
  unfold dnB lpB
  rw [if_pos rfl, if_neg (by simp)]
  by_cases h : lm ≤ (i : Int) + 1
  · rw [if_pos h, if_neg (by omega)]; rfl
  · rw [if_neg h, if_pos (by omega)]; rfl
theorem lp_end {lm : Int} {q o i : Nat} (h : ¬ (i : Int) < lm) : lpB lm q o i = oB lm q o 0 := if_neg h
theorem busy_o (lm : Int) (q o : Nat) (hr : OkR lm ((q + 1 : Nat) : Int) o) (p i : Nat) (hi : i ≤ 20) (now : Nat) (hn : o * i ≤ now ∧ now < o * i + o) : Spec Try.prog 20 [ptr p, .int .u64 (now : Int), .int .i64 0, .int .i64 11] [⟨some p, cl (brV (oB lm q o i)) 64⟩] (fun r H' => r = .bool true ∧ H' = [⟨some p, cl (brV (oB lm q o i)) 64⟩]) := by
  obtain ⟨h1, h2, h3, h4, h5, h6⟩ := hr
  have hm := mul_room h6 (show i ≤ 40 by omega)
  refine allows_busy (oB lm q o i) now p h1 ⟨by (show ((2 * i + 1 : Nat) : Int) ≤ _); omega, by (show 0 ≤ ((2 * i + 1 : Nat) : Int)); omega⟩ ⟨Int.le_refl _, (by decide : (0 : Int) ≤ 1000)⟩ (Nat.le_refl _) (by omega) ?_ ?_
  · unfold mayE; rw [if_neg]; (show ¬ (now < o * i ∨ now = _)); omega
  · have hst : stB (oB lm q o i) now = 1 := by unfold stB; exact if_neg (by (show ¬ ((1 : Int) = 1 ∧ o ≤ now - o * i)); omega)
    unfold rdB; rw [hst]; simp
theorem allow_o (lm : Int) (q o : Nat) (hr : OkR lm ((q + 1 : Nat) : Int) o) (p i : Nat) (hi : i ≤ 20) : Spec Try.prog 18 [ptr p, .int .u64 ((o * i + o : Nat) : Int)] [⟨some p, cl (brV (oB lm q o i)) 64⟩] (fun r H' => r = .tuple #[.int .i64 ((2 * i + 2 : Nat) : Int), .int .i64 0] ∧ H' = [⟨some p, cl (brV (hfB lm q o i)) 64⟩]) := by
  obtain ⟨h1, h2, h3, h4, h5, h6⟩ := hr
  have hm := mul_room h6 (show i ≤ 40 by omega)
  have hst : stB (oB lm q o i) (o * i + o) = 2 := by unfold stB; exact if_pos ⟨rfl, by (show o ≤ o * i + o - o * i); omega⟩
  refine allow_run (oB lm q o i) (hfB lm q o i) (o * i + o) p _ h1 ⟨by (show ((2 * i + 1 : Nat) : Int) ≤ _); omega, by (show 0 ≤ ((2 * i + 1 : Nat) : Int)); omega⟩ ⟨Int.le_refl _, (by decide : (0 : Int) ≤ 1000)⟩ (Nat.le_refl _) (by omega) ?_ (.inr ⟨hst, .inl rfl⟩) ?_ rfl
  · unfold mayE; rw [if_neg]; (show ¬ (o * i + o < o * i ∨ o * i + o = _)); omega
  · unfold alB; exact (if_pos hst).trans ((if_pos (show (oB lm q o i).st = 1 from rfl)).trans rfl)
theorem done_h (lm : Int) (q o : Nat) (hr : OkR lm ((q + 1 : Nat) : Int) o) (p i : Nat) (hi : i ≤ 20) : Spec Try.prog 19 [ptr p, .int .u64 ((o * i + o : Nat) : Int), .int .i64 ((2 * i + 2 : Nat) : Int), .bool false] [⟨some p, cl (brV (hfB lm q o i)) 64⟩] (fun r H' => r = .int .i64 0 ∧ H' = [⟨some p, cl (brV (oB lm q o (i + 1))) 64⟩]) := by
  obtain ⟨h1, h2, h3, h4, h5, h6⟩ := hr
  have hm := mul_room h6 (show i ≤ 40 by omega)
  refine done_run (hfB lm q o i) (oB lm q o (i + 1)) (o * i + o) p false h1 ⟨by (show ((2 * i + 2 : Nat) : Int) ≤ _); omega, by (show 0 ≤ ((2 * i + 2 : Nat) : Int)); omega⟩ ⟨Int.le_refl _, (by decide : (0 : Int) ≤ 1000)⟩ ⟨Int.le_refl _, (by decide : (0 : Int) ≤ 1000)⟩ ?_ ?_ _ rfl
  · unfold mayE; rw [if_neg]; (show ¬ (o * i + o < o * i + o ∨ o * i + o = _)); omega
  · unfold dnB
    exact (if_neg (show ¬ (hfB lm q o i).st = 0 by simp [hfB])).trans ((if_pos (show (hfB lm q o i).st = 2 from rfl)).trans ((if_neg (show ¬ (false = true) by simp)).trans rfl))
theorem allow_a (lm : Int) (q o : Nat) (hr : OkR lm ((q + 1 : Nat) : Int) o) (m : Nat) (hm : m ≤ 20) (p i : Nat) (hi : i < q + 1) : Spec Try.prog 18 [ptr p, .int .u64 ((o * m + o : Nat) : Int)] [⟨some p, cl (brV (aB lm q o m i)) 64⟩] (fun r H' => r = .tuple #[.int .i64 ((2 * m + 2 : Nat) : Int), .int .i64 0] ∧ H' = [⟨some p, cl (brV (aB lm q o m (i + 1))) 64⟩]) := by
  cases i with
  | zero => exact allow_o lm q o hr p m hm
  | succ i =>
    obtain ⟨h1, h2, h3, h4, h5, h6⟩ := hr
    have hr := mul_room h6 (show m ≤ 40 by omega)
    have hst : stB (aB lm q o m (i + 1)) (o * m + o) = 2 := by unfold stB; rw [if_neg (by simp [aB])]; rfl
    refine allow_run (aB lm q o m (i + 1)) (aB lm q o m (i + 2)) (o * m + o) p _ h1 ⟨by (show ((2 * m + 2 : Nat) : Int) ≤ _); omega, by (show 0 ≤ ((2 * m + 2 : Nat) : Int)); omega⟩ ⟨by (show 0 ≤ ((i + 1 : Nat) : Int)); omega, by (show ((i + 1 : Nat) : Int) ≤ 1000); omega⟩ (Nat.zero_le _) (by omega) ?_ (.inr ⟨hst, .inr (by (show ((i + 1 : Nat) : Int) < ((q + 1 : Nat) : Int)); omega)⟩) ?_ rfl
    · unfold mayE; rw [if_neg]; (show ¬ (o * m + o < o * m + o ∨ o * m + o = _)); omega
    · unfold alB; rw [if_pos hst, if_neg (by simp [aB])]; rfl
theorem busy_a (lm : Int) (q o : Nat) (hr : OkR lm ((q + 1 : Nat) : Int) o) (m : Nat) (hm : m ≤ 20) (p : Nat) : Spec Try.prog 20 [ptr p, .int .u64 ((o * m + o : Nat) : Int), .int .i64 0, .int .i64 11] [⟨some p, cl (brV (aB lm q o m (q + 1))) 64⟩] (fun r H' => r = .bool true ∧ H' = [⟨some p, cl (brV (aB lm q o m (q + 1))) 64⟩]) := by
  obtain ⟨h1, h2, h3, h4, h5, h6⟩ := hr
  have hr := mul_room h6 (show m ≤ 40 by omega)
  have hst : stB (aB lm q o m (q + 1)) (o * m + o) = 2 := by unfold stB; rw [if_neg (by simp [aB])]; rfl
  refine allows_busy (aB lm q o m (q + 1)) (o * m + o) p h1 ⟨by (show ((2 * m + 2 : Nat) : Int) ≤ _); omega, by (show 0 ≤ ((2 * m + 2 : Nat) : Int)); omega⟩ ⟨by (show 0 ≤ ((q + 1 : Nat) : Int)); omega, by (show ((q + 1 : Nat) : Int) ≤ 1000); omega⟩ (Nat.zero_le _) (by omega) ?_ ?_
  · unfold mayE; rw [if_neg]; (show ¬ (o * m + o < o * m + o ∨ o * m + o = _)); omega
  · unfold rdB; rw [hst]; simp [aB]
theorem a_end (lm : Int) (q o m : Nat) : aB lm q o m (q + 1) = cB lm q o m 0 := by unfold cB; rw [if_pos (by omega)]; rfl
theorem state_c (lm : Int) (q o : Nat) (hr : OkR lm ((q + 1 : Nat) : Int) o) (m : Nat) (hm : m ≤ 20) (p i : Nat) (hi : i < q + 1) : Spec Try.prog 21 [ptr p, .int .u64 ((o * m + o : Nat) : Int)] [⟨some p, cl (brV (cB lm q o m i)) 64⟩] (fun r H' => r = .tuple #[.int .i64 2, .int .i64 0] ∧ H' = [⟨some p, cl (brV (cB lm q o m i)) 64⟩]) := by
  obtain ⟨h1, h2, h3, h4, h5, h6⟩ := hr
  have hr := mul_room h6 (show m ≤ 40 by omega)
  have e : cB lm q o m i = ⟨lm, ((q + 1 : Nat) : Int), o, o * m + o, ((2 * m + 2 : Nat) : Int), 2, 0, 0, ((q + 1 : Nat) : Int), (i : Int)⟩ := if_pos hi
  rw [e]
  refine state_run _ (o * m + o) p 2 h1 (Nat.zero_le _) (by omega) ?_ (by simp [stB])
  unfold mayE; rw [if_neg]; dsimp only; omega
theorem done_c (lm : Int) (q o : Nat) (hr : OkR lm ((q + 1 : Nat) : Int) o) (m : Nat) (hm : m ≤ 20) (p i : Nat) (hi : i < q + 1) : Spec Try.prog 19 [ptr p, .int .u64 ((o * m + o : Nat) : Int), .int .i64 ((2 * m + 2 : Nat) : Int), .bool true] [⟨some p, cl (brV (cB lm q o m i)) 64⟩] (fun r H' => r = .int .i64 0 ∧ H' = [⟨some p, cl (brV (cB lm q o m (i + 1))) 64⟩]) := by
  obtain ⟨h1, h2, h3, h4, h5, h6⟩ := hr
  have hr := mul_room h6 (show m ≤ 40 by omega)
  have e : cB lm q o m i = ⟨lm, ((q + 1 : Nat) : Int), o, o * m + o, ((2 * m + 2 : Nat) : Int), 2, 0, 0, ((q + 1 : Nat) : Int), (i : Int)⟩ := if_pos hi
  rw [e]
  refine done_run _ (cB lm q o m (i + 1)) (o * m + o) p true h1 ⟨by dsimp only; omega, by dsimp only; omega⟩ ⟨by simp, by simp⟩ ⟨by dsimp only; omega, by dsimp only; omega⟩ ?_ ?_ _ rfl
  · unfold mayE; rw [if_neg]; dsimp only; omega
  · unfold dnB cB
    rw [if_neg (by simp), if_pos rfl, if_pos rfl]
    by_cases h : ((q + 1 : Nat) : Int) ≤ (i : Int) + 1
    · rw [if_pos h, if_neg (by omega)]; rfl
    · rw [if_neg h, if_pos (by omega)]; rfl
theorem state_f (lm : Int) (q o : Nat) (hr : OkR lm ((q + 1 : Nat) : Int) o) (m : Nat) (hm : m ≤ 20) (p : Nat) : Spec Try.prog 21 [ptr p, .int .u64 ((o * m + o : Nat) : Int)] [⟨some p, cl (brV (cB lm q o m (q + 1))) 64⟩] (fun r H' => r = .tuple #[.int .i64 0, .int .i64 0] ∧ H' = [⟨some p, cl (brV (cB lm q o m (q + 1))) 64⟩]) := by
  obtain ⟨h1, h2, h3, h4, h5, h6⟩ := hr
  have hr := mul_room h6 (show m ≤ 40 by omega)
  have e : cB lm q o m (q + 1) = ⟨lm, ((q + 1 : Nat) : Int), o, o * m + o, ((2 * m + 3 : Nat) : Int), 0, 0, 0, 0, 0⟩ := if_neg (by omega)
  rw [e]
  refine state_run _ (o * m + o) p 0 h1 (Nat.zero_le _) (by omega) ?_ (by simp [stB])
  unfold mayE; rw [if_neg]; dsimp only; omega

end Go.Proofs.Ytafjfllcebdjdaa
