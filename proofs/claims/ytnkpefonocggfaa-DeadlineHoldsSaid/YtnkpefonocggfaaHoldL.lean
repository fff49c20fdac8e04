/-
  Chapter 10 (deadline), part HoldL: contracts of functions that the laws call, each for the heap it names.
-/
import Derived.Test.YtnkpefonocggfaaKnown
set_option linter.unusedVariables false
set_option maxRecDepth 20000
namespace Go.Proofs.Ytnkpefonocggfaa


/-- The deadlines that are in force and have not passed; all others are Never. -/
def act (f : Nat → Nat) (now : Nat) : Nat → Nat := fun i => if now < f i then f i else 18446744073709551615
theorem act_new (now : Nat) : act F0 now = F0 := by
  funext i
  unfold act
  split <;> rfl
theorem act_never {f : Nat → Nat} {now i k : Nat} (h : k ≤ now ∨ k = 18446744073709551615) : act (updF f i k) now = updF (act f now) i 18446744073709551615 := by
  funext j
  unfold act updF
  by_cases e : j = i
  · simp only [if_pos e]
    split <;> omega
  · simp only [if_neg e]
theorem act_put {f : Nat → Nat} {now i k : Nat} (h : now < k) : act (updF f i k) now = updF (act f now) i k := by
  funext j
  unfold act updF
  by_cases e : j = i
  · simp only [if_pos e, if_pos h]
  · simp only [if_neg e]
theorem act_some {f : Nat → Nat} {now i : Nat} (h : act f now i < 18446744073709551615) : act f now i = f i ∧ now < f i := by
  unfold act at *
  split at h
  · rename_i e
    rw [if_pos e]; exact ⟨rfl, e⟩
  · omega
theorem act_is {f : Nat → Nat} {now i : Nat} (h : now < f i) : act f now i = f i := by unfold act; rw [if_pos h]
theorem lpI_eq {f g : Nat → Nat} {i : Nat} (h : f i = g i) : lpI f i = lpI g i := by unfold lpI; rw [h]
def KeepP (a : Ac) (x : Lp) : Prop := ¬ (x.fd = a.fd ∧ x.dir = a.dir) ∧ (a.what = 0 ∨ x.fd ≠ a.fd)
instance (a : Ac) (x : Lp) : Decidable (KeepP a x) := by unfold KeepP; infer_instance
def restA (a : Ac) (F : List Lp) : List Lp := F.filter (fun x => decide (KeepP a x))
theorem restA_snoc (a : Ac) (F : List Lp) (x : Lp) : restA a (F ++ [x]) = restA a F ++ (if KeepP a x then [x] else []) := by
  rw [restA, restA, List.filter_append]
  by_cases h : KeepP a x <;> simp [h]
theorem restA_set {a : Ac} (h : a.what = 0) (F : List Lp) : restA a F = dropP F a.fd a.dir := by
  unfold restA dropP
  refine List.filter_congr fun x _ => ?_
  rw [← decide_not, decide_eq_decide]
  unfold KeepP
  simp [h]
section
variable {f : Nat → Nat} {now : Nat} {F : List Lp}
theorem hold_clear (h : RD (act f now) F) {a : Ac} (hw : a.what = 2) : RD (act (clearF f a.fd) now) (restA a F) := by
  unfold clearF
  by_cases hf : fileE a.fd = 0
  · obtain ⟨n, hn, e⟩ := fileE_nat hf
    rw [if_pos hf, e, Int.toNat_natCast]
    have h2 := (h.never (i := 2 * n + 0)).never (i := 2 * n + 1)
    have e1 : act (clrF f n 2) now = updF (updF (act f now) (2 * n + 0) 18446744073709551615) (2 * n + 1) 18446744073709551615 := by
      rw [← act_never (.inr rfl), ← act_never (.inr rfl)]; rfl
    rw [e1]
    have e2 : restA a F = dropP (dropP F (((2 * n + 0) / 2 : Nat) : Int) (((2 * n + 0) % 2 : Nat) : Int)) (((2 * n + 1) / 2 : Nat) : Int) (((2 * n + 1) % 2 : Nat) : Int) := by
      unfold restA dropP
      rw [List.filter_filter]
      refine List.filter_congr fun x hx => ?_
      obtain ⟨i, hi, rfl, _⟩ := h.inn x hx
      rw [← decide_not, ← decide_not, ← Bool.decide_and, decide_eq_decide]
      unfold KeepP lpI
      dsimp only
      omega
    rw [e2]; exact h2
  · have h2 := fileE_two hf
    rw [if_neg hf]
    have e : restA a F = F := by
      refine List.filter_eq_self.2 fun x hx => ?_
      obtain ⟨i, hi, rfl, _⟩ := h.inn x hx
      rw [decide_eq_true_eq]
      unfold KeepP lpI
      dsimp only
      unfold fileE at hf
      split at hf
      · omega
      · omega
    rw [e]; exact h
theorem hold_not (h : RD (act f now) F) {a : Ac} (hw : a.what = 0) (hs : spotE a.fd a.dir = 0) (hk : a.tm ≤ now ∨ a.tm = 18446744073709551615) : RD (act (setF f a.fd a.dir a.tm) now) (restA a F) := by
  obtain ⟨n, d, h1, h2, e1, e2⟩ := spotE_nat hs
  unfold setF
  rw [if_pos hs, restA_set hw, e1, e2, pl_nat, act_never hk]
  have := h.never (i := 2 * n + d)
  rw [show (2 * n + d) / 2 = n from by omega, show (2 * n + d) % 2 = d from by omega] at this
  exact this
theorem hold_put (h : RD (act f now) F) {a : Ac} (hw : a.what = 0) (hs : spotE a.fd a.dir = 0) (hk : now < a.tm) (hn : a.tm < 18446744073709551615) : RD (act (setF f a.fd a.dir a.tm) now) (restA a F ++ [⟨a.fd, a.dir, a.tm⟩]) := by
  obtain ⟨n, d, h1, h2, e1, e2⟩ := spotE_nat hs
  unfold setF
  rw [if_pos hs, restA_set hw, e1, e2, pl_nat, act_put hk]
  have := h.put (i := 2 * n + d) (k := a.tm) (by omega) hn
  rw [show (2 * n + d) / 2 = n from by omega, show (2 * n + d) % 2 = d from by omega] at this
  exact this
theorem hold_same (h : RD (act f now) F) {a : Ac} (hs : ¬ spotE a.fd a.dir = 0) : RD (act (setF f a.fd a.dir a.tm) now) F := by
  unfold setF; rw [if_neg hs]; exact h
def laterL (to : Nat) (F : List Lp) : List Lp := F.filter (fun x => decide (to < x.at_))
theorem laterL_snoc (to : Nat) (F : List Lp) (x : Lp) : laterL to (F ++ [x]) = laterL to F ++ (if to < x.at_ then [x] else []) := by
  rw [laterL, laterL, List.filter_append]
  by_cases h : to < x.at_ <;> simp [h]
theorem flt_len (p : Lp → Bool) : ∀ F : List Lp, (F.filter p).length + (F.filter (fun x => !p x)).length = F.length
  | [] => rfl
  | x :: F => by
    have := flt_len p F
    cases hx : p x <;> simp [hx] <;> omega
theorem hold_adv (h : RD (act f now) F) {to : Nat} (h1 : now ≤ to) : RD (act f to) (laterL to F) := by
  have key : ∀ i, act f now i < 18446744073709551615 → to < act f now i → act f to i = act f now i := fun i q1 q2 => by
    obtain ⟨e1, e2⟩ := act_some q1
    rw [e1] at q2 ⊢
    exact act_is q2
  refine ⟨fun x hx => ?_, fun i hi hk => ?_, h.nd.filter _⟩
  · obtain ⟨hx1, hx2⟩ := List.mem_filter.1 hx
    obtain ⟨i, hi, rfl, hk⟩ := h.inn x hx1
    have e := key i hk (of_decide_eq_true hx2)
    exact ⟨i, hi, lpI_eq e.symm, by rw [e]; exact hk⟩
  · obtain ⟨e1, e2⟩ := act_some hk
    have e3 : act f now i = f i := act_is (by omega)
    have hm := h.all i hi (by omega)
    rw [lpI_eq (e1.trans e3.symm)]
    exact List.mem_filter.2 ⟨hm, decide_eq_true (show to < act f now i by omega)⟩
theorem got_in (h : RD (act f now) F) {to : Nat} (hto : to < 18446744073709551615) {l : List Lp} (hl : IsLap f now to l) {x : Lp} (hx : x ∈ l) : x ∈ F ∧ x.at_ ≤ to := by
  obtain ⟨i, hi, h1, h2, rfl⟩ := (hl.mem x).1 hx
  refine ⟨?_, h2⟩
  rw [lpI_eq (act_is h1).symm]
  exact h.all i hi (by rw [act_is h1]; omega)
theorem got_len (h : RD (act f now) F) {to : Nat} (hto : to < 18446744073709551615) {l : List Lp} (hl : IsLap f now to l) : (laterL to F).length + l.length = F.length := by
  have hF : F.Nodup := h.nd.imp fun {a b} hne e => hne (by rw [e]; exact ⟨rfl, rfl⟩)
  have hL : l.Nodup := hl.ord.imp fun {a b} hlt e => by subst e; exact lp_irrefl a hlt
  have hp : l.Perm (F.filter (fun x => !decide (to < x.at_))) := by
    refine (List.perm_ext_iff_of_nodup hL (hF.filter _)).2 fun x => ?_
    constructor
    · intro hx
      obtain ⟨q1, q2⟩ := got_in h hto hl hx
      exact List.mem_filter.2 ⟨q1, by rw [decide_eq_false (by omega)]; rfl⟩
    · intro hx
      obtain ⟨q1, q2⟩ := List.mem_filter.1 hx
      obtain ⟨i, hi, rfl, hk⟩ := h.inn x q1
      obtain ⟨e1, e2⟩ := act_some hk
      rw [Bool.not_eq_true', decide_eq_false_iff_not] at q2
      have q3 : (lpI (act f now) i).at_ = act f now i := rfl
      exact (hl.mem _).2 ⟨i, hi, e2, by omega, lpI_eq e1⟩
  have := flt_len (fun x : Lp => decide (to < x.at_)) F
  rw [hp.length_eq]
  unfold laterL
  omega
theorem IsNx.gt {k : Nat} (h : IsNx f now k) (hn : now < 18446744073709551615) : now < k := by
  rcases h.is_ with e | ⟨i, _, h1, h2, _⟩
  · omega
  · omega
theorem lap_join {p q : Nat} {A B : List Lp} (ha : IsLap f now p A) (hb : IsLap f p q B) (h1 : now ≤ p) (h2 : p ≤ q) : IsLap f now q (A ++ B) := by
  refine ⟨?_, fun x => ?_⟩
  · rw [List.pairwise_append]
    refine ⟨ha.ord, hb.ord, fun a hxa b hxb => ?_⟩
    obtain ⟨i, _, a1, a2, rfl⟩ := (ha.mem a).1 hxa
    obtain ⟨j, _, b1, b2, rfl⟩ := (hb.mem b).1 hxb
    refine .inl ?_
    show f i < f j
    omega
  · rw [List.mem_append, ha.mem, hb.mem]
    constructor
    · rintro (⟨i, hi, q1, q2, e⟩ | ⟨i, hi, q1, q2, e⟩)
      · exact ⟨i, hi, q1, by omega, e⟩
      · exact ⟨i, hi, by omega, q2, e⟩
    · rintro ⟨i, hi, q1, q2, e⟩
      by_cases q : f i ≤ p
      · exact .inl ⟨i, hi, q1, q, e⟩
      · exact .inr ⟨i, hi, by omega, q2, e⟩
end
theorem fileE_T {fd : Int} (h : 0 ≤ fd) : decide (fileE fd = 0) = decide (fd < 128) := decide_eq_decide.2 (by unfold fileE; split <;> omega)
theorem fileE_F {fd : Int} (h : ¬ 0 ≤ fd) : decide (fileE fd = 0) = false := decide_eq_false (by unfold fileE; split <;> omega)
theorem lp_eqI {x u : Lp} : (x.fd = u.fd ∧ x.dir = u.dir ∧ (x.at_ : Int) = (u.at_ : Int)) ↔ x = u := by
  obtain ⟨a, b, c⟩ := x
  obtain ⟨p, q, r⟩ := u
  simp only [Lp.mk.injEq]
  omega
theorem adv_ok {now to : Nat} (h : advE now to = 0) : now ≤ to ∧ to ≠ 18446744073709551615 := by
  unfold advE at h
  split at h
  · cases h
  · split at h
    · cases h
    · omega
structure HoW where
  k : Nat
  f : Nat → Nat
  now : Nat
  d : DM
  F : List Lp
  ob : Option Nat
  c : Nat
  tl : List Value
structure InW where
  j : Nat
  b : Bool

end Go.Proofs.Ytnkpefonocggfaa
