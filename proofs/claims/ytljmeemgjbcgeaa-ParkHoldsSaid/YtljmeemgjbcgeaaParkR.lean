/-
  Chapter 09 (park), part ParkR: contracts of functions that the laws call, each for the heap it names.
-/
import Derived.Test.YtljmeemgjbcgeaaParkL
import Derived.Test.YtljmeemgjbcgeaaSpotKey
set_option linter.unusedVariables false
set_option maxRecDepth 20000
namespace Go.Proofs.Ytljmeemgjbcgeaa


structure QM where
  p : Nat
  mb : Nat
  l : List (Nat × Int)
  n : Nat
  es : Array MapEntry
  mc : Nat
abbrev qmH (q : QM) : Heap := qH q.p q.mb q.l q.n q.es q.mc
abbrev evP (q : QM) : Value := ptrQ q.p
def qsH : List (Sp × QM) → Heap
  | [] => []
  | x :: R => qmH x.2 ++ qsH R
theorem qsH_perm {A B : List (Sp × QM)} (h : A.Perm B) : (qsH A).Perm (qsH B) := by
  induction h with
  | nil => exact .refl _
  | cons x _ ih => exact List.Perm.append_left _ ih
  | swap x y l =>
    show (qmH y.2 ++ (qmH x.2 ++ qsH l)).Perm (qmH x.2 ++ (qmH y.2 ++ qsH l))
    rw [← List.append_assoc, ← List.append_assoc]
    exact List.Perm.append_right _ List.perm_append_comm
  | trans _ _ a b => exact a.trans b
abbrev encSeat (x : Sp × Nat) : List Value := [.int .i64 x.1.1, .int .i64 x.1.2, .int .u64 (x.2 : Int)]
theorem encSeat3 (x : Sp × Nat) : (encSeat x).length = 3 := rfl
structure PkM where
  p : Nat
  bs : Nat
  mb : Nat
  t : TkM
  seats : List (Sp × Nat)
  cs : Nat
  ts : List Value
  mes : Array MapEntry
  mc : Nat
  QL : List (Sp × QM)
abbrev pkR (p bs mb pt : Nat) (seats : List (Sp × Nat)) (cs : Nat) (ts : List Value) (mes : Array MapEntry) (mc : Nat) : Heap := [⟨some p, cl [ptrQ pt, .slice (some ⟨bs, 0, none⟩) seats.length cs, .map (some mb)] 69⟩, ⟨some bs, cl (seats.flatMap encSeat ++ ts) 81⟩, ⟨some mb, .map mes mc⟩]
abbrev pkH (l : PkM) : Heap := pkR l.p l.bs l.mb l.t.p l.seats l.cs l.ts l.mes l.mc ++ (tkH l.t ++ qsH l.QL)
theorem pkH_perm (l : PkM) {B : List (Sp × QM)} (h : l.QL.Perm B) : (pkH l).Perm (pkH { l with QL := B }) := List.Perm.append_left _ (List.Perm.append_left _ (qsH_perm h))
structure QOk (N : Nat) (q : QM) : Prop where
  qk : Qk q.l q.n
  mp : Mp (.int .u64) ekQ evQ q.es (nds 0 0 q.l)
  n : q.n ≤ N
structure PkIs (N : Nat) (s : PS) (l : PkM) : Prop where
  ps : PsOk s
  tk : TkIs s.sm s.qm l.t
  tn : l.t.n ≤ N
  ln : l.seats.length = s.sm.length
  mpk : Mk ekS evP l.mes l.mc l.QL
  q : ∀ x ∈ l.QL, QOk N x.2 ∧ x.2.l.map (·.2) = wAt s.W x.1
  seat : ∀ w ∈ s.W, ∃ t q, l.seats[w.i]? = some (w.at_, t) ∧ (w.at_, q) ∈ l.QL ∧ (t, (w.i : Int)) ∈ q.l
section
variable {N : Nat} {s : PS} {l : PkM}
theorem PkIs.to (h : PkIs N s l) {B : List (Sp × QM)} (p : l.QL.Perm B) : PkIs N s { l with QL := B } :=
  ⟨h.ps, h.tk, h.tn, h.ln, h.mpk.to p, fun x hx => h.q x (p.mem_iff.2 hx), fun w hw => by
    obtain ⟨t, q, h1, h2, h3⟩ := h.seat w hw
    exact ⟨t, q, h1, p.mem_iff.1 h2, h3⟩⟩
theorem PkIs.mono (h : PkIs N s l) {M : Nat} (hm : N ≤ M) : PkIs M s l :=
  ⟨h.ps, h.tk, Nat.le_trans h.tn hm, h.ln, h.mpk, fun x hx => ⟨⟨(h.q x hx).1.qk, (h.q x hx).1.mp, Nat.le_trans (h.q x hx).1.n hm⟩, (h.q x hx).2⟩, h.seat⟩
theorem PkIs.qlen (h : PkIs N s l) {x : Sp × QM} (hx : x ∈ l.QL) : x.2.l.length ≤ 64 := by
  have h1 := wAt_len s.W x.1
  have h2 := h.ps.few
  have h3 := congrArg List.length (h.q x hx).2
  rw [List.length_map] at h3
  omega
theorem PkIs.absent (h : PkIs N s l) {a : Sp} (ha : a ∉ l.QL.map (·.1)) : wAt s.W a = [] := by
  rw [List.eq_nil_iff_forall_not_mem]
  intro v hv
  obtain ⟨w, hw, rfl, _⟩ := wAt_mem.1 hv
  obtain ⟨t, q, _, h2, _⟩ := h.seat w hw
  exact ha (List.mem_map.2 ⟨_, h2, rfl⟩)
theorem PkIs.addkey (h : PkIs N s l) {a : Sp} (ha : a ∉ l.QL.map (·.1)) (pq pm : Nat) {mes' : Array MapEntry} {mc' : Nat} (hm : Mk ekS evP mes' mc' ((a, ⟨pq, pm, [], 0, #[], 0⟩) :: l.QL)) : PkIs N s { l with mes := mes', mc := mc', QL := (a, ⟨pq, pm, [], 0, #[], 0⟩) :: l.QL } :=
  ⟨h.ps, h.tk, h.tn, h.ln, hm, fun x hx => by
    rcases List.mem_cons.1 hx with rfl | hx
    · exact ⟨⟨Qk.empty 0, mp_new, Nat.zero_le _⟩, by rw [h.absent ha]; rfl⟩
    · exact h.q x hx, fun w hw => by
    obtain ⟨t, q, h1, h2, h3⟩ := h.seat w hw
    exact ⟨t, q, h1, List.mem_cons_of_mem _ h2, h3⟩⟩
theorem mk_swap {mes : Array MapEntry} {mc : Nat} {a : Sp} {q q' : QM} {R : List (Sp × QM)} (h : Mk ekS evP mes mc ((a, q) :: R)) (hp : q'.p = q.p) : Mk ekS evP mes mc ((a, q') :: R) :=
  ⟨by have := h.perm; simp only [List.map_cons, evP] at this ⊢; rw [hp]; exact this, by have := h.nodup; simpa using this, h.born, h.bnd⟩
theorem keys_ne {a : Sp} {q : QM} {R : List (Sp × QM)} (h : (((a, q) :: R).map (·.1)).Nodup) {x : Sp × QM} (hx : x ∈ R) : x.1 ≠ a := fun e => by
  rw [List.map_cons, List.nodup_cons] at h
  exact h.1 (List.mem_map.2 ⟨x, hx, e⟩)
theorem PkIs.push (h : PkIs N s l) {a : Sp} {q : QM} {R : List (Sp × QM)} (hQ : l.QL = (a, q) :: R) {i : Nat} (hi : s.sm[i]? = some 1) (ha : vldS a) {t' : TkM} (ht : TkIs (stepR s.sm s.qm 1 2 i).2.1 (stepR s.sm s.qm 1 2 i).2.2 t') (htn : t'.n ≤ N + 1)
    {q' : QM} (hp : q'.p = q.p) (hql : q'.l = q.l ++ [(q.n + 1, (i : Int))]) (hqn : q'.n = q.n + 1) (hqm : Mp (.int .u64) ekQ evQ q'.es (nds 0 0 q'.l)) :
    PkIs (N + 1) (s.add i a) { l with t := t', seats := l.seats.set i (a, q.n + 1), QL := (a, q') :: R } := by
  have hno : ∀ w ∈ s.W, w.i ≠ i := fun w hw e => by
    have := (h.ps.prk i).2 ⟨w, hw, e⟩
    rw [hi] at this; cases this
  have hil : i < l.seats.length := by rw [h.ln]; exact (List.getElem?_eq_some_iff.1 hi).1
  have hmk := h.mpk
  rw [hQ] at hmk
  have hq0 := h.q (a, q) (by rw [hQ]; exact List.mem_cons_self ..)
  refine ⟨h.ps.add_ hi ha, ht, htn, ?_, mk_swap hmk hp, fun x hx => ?_, fun w hw => ?_⟩
  · show (l.seats.set i _).length = (stepR _ _ _ _ _).2.1.length
    rw [List.length_set, stepR_len, h.ln]
  · show _ ∧ _ = wAt (s.W ++ [⟨i, a⟩]) x.1
    rw [wAt_snoc]
    rcases List.mem_cons.1 hx with rfl | hx
    · refine ⟨⟨by rw [hql, hqn]; exact hq0.1.qk.push _, hqm, by rw [hqn]; have := hq0.1.n; dsimp only at this; omega⟩, ?_⟩
      rw [if_pos rfl, hql, List.map_append, hq0.2]; rfl
    · have hne := keys_ne hmk.nodup hx
      have hq1 := h.q x (by rw [hQ]; exact List.mem_cons_of_mem _ hx)
      rw [if_neg (fun e => hne e.symm), List.append_nil]
      exact ⟨⟨hq1.1.qk, hq1.1.mp, by have := hq1.1.n; omega⟩, hq1.2⟩
  · rcases List.mem_append.1 hw with hw | hw
    · obtain ⟨t, q9, h1, h2, h3⟩ := h.seat w hw
      have hne := hno w hw
      rw [hQ] at h2
      rcases List.mem_cons.1 h2 with e | h2
      · simp only [Prod.mk.injEq] at e
        obtain ⟨e1, rfl⟩ := e
        exact ⟨t, q', by dsimp only; rw [List.getElem?_set, if_neg (Ne.symm hne)]; exact h1, by rw [e1]; exact List.mem_cons_self .., by rw [hql]; exact List.mem_append_left _ h3⟩
      · exact ⟨t, q9, by dsimp only; rw [List.getElem?_set, if_neg (Ne.symm hne)]; exact h1, List.mem_cons_of_mem _ h2, h3⟩
    · rw [List.mem_singleton] at hw
      subst hw
      exact ⟨q.n + 1, q', by dsimp only; rw [List.getElem?_set, if_pos rfl, if_pos hil], List.mem_cons_self .., by rw [hql]; exact List.mem_append_right _ (List.mem_singleton.2 rfl)⟩
theorem mid_filter {A B : List (Nat × Int)} {t : Nat} {v : Int} (h : ((A ++ (t, v) :: B).map (·.2)).Nodup) : ((A ++ (t, v) :: B).map (·.2)).filter (fun x => decide (x ≠ v)) = (A ++ B).map (·.2) := by
  have h1 := ((List.perm_middle (l₁ := A) (a := (t, v)) (l₂ := B)).map (fun x : Nat × Int => x.2)).nodup_iff.1 h
  rw [List.map_cons, List.nodup_cons] at h1
  have hA : (A.map (·.2)).filter (fun x => decide (x ≠ v)) = A.map (·.2) := List.filter_eq_self.2 fun x hx => decide_eq_true fun e => h1.1 (by rw [List.map_append]; exact List.mem_append_left _ (e ▸ hx))
  have hB : (B.map (·.2)).filter (fun x => decide (x ≠ v)) = B.map (·.2) := List.filter_eq_self.2 fun x hx => decide_eq_true fun e => h1.1 (by rw [List.map_append]; exact List.mem_append_right _ (e ▸ hx))
  rw [List.map_append, List.map_cons, List.filter_append, List.filter_cons_of_neg (by simp), hA, hB, List.map_append]
theorem PkIs.pop (h : PkIs N s l) {w : Wt} (hw : w ∈ s.W) {q : QM} {R : List (Sp × QM)} (hQ : l.QL = (w.at_, q) :: R) {A B : List (Nat × Int)} {t : Nat} (hq : q.l = A ++ (t, (w.i : Int)) :: B) {t' : TkM} (ht : TkIs (stepR s.sm s.qm 2 1 w.i).2.1 (stepR s.sm s.qm 2 1 w.i).2.2 t') (htn : t'.n ≤ N + 1)
    {q' : QM} (hp : q'.p = q.p) (hql : q'.l = A ++ B) (hqn : q'.n = q.n) (hqm : Mp (.int .u64) ekQ evQ q'.es (nds 0 0 q'.l)) :
    PkIs (N + 1) (s.out w.i) { l with t := t', QL := (w.at_, q') :: R } := by
  have hmk := h.mpk
  rw [hQ] at hmk
  have hq0 := h.q (w.at_, q) (by rw [hQ]; exact List.mem_cons_self ..)
  have hnd := wAt_nodup h.ps.nd w.at_
  rw [← hq0.2, hq] at hnd
  refine ⟨h.ps.out_ hw, ht, htn, ?_, mk_swap hmk hp, fun x hx => ?_, fun u hu => ?_⟩
  · show l.seats.length = (stepR _ _ _ _ _).2.1.length
    rw [stepR_len, h.ln]
  · show _ ∧ _ = wAt (wOut s.W w.i) x.1
    rw [wAt_out]
    rcases List.mem_cons.1 hx with rfl | hx
    · refine ⟨⟨by rw [hql, hqn]; have h9 := hq0.1.qk; rw [hq] at h9; exact h9.rem, hqm, by rw [hqn]; have := hq0.1.n; dsimp only at this; omega⟩, ?_⟩
      rw [hql, ← hq0.2, hq]
      exact (mid_filter hnd).symm
    · have hne := keys_ne hmk.nodup hx
      have hq1 := h.q x (by rw [hQ]; exact List.mem_cons_of_mem _ hx)
      refine ⟨⟨hq1.1.qk, hq1.1.mp, by have := hq1.1.n; omega⟩, ?_⟩
      rw [hq1.2]
      have hall : ∀ v ∈ wAt s.W x.1, v ≠ (w.i : Int) := fun v hv e => by
        obtain ⟨u, hu, e1, e2⟩ := wAt_mem.1 hv
        have := wt_one h.ps.nd hu hw (by omega)
        subst this
        exact hne e1.symm
      exact (List.filter_eq_self.2 fun v hv => decide_eq_true (hall v hv)).symm
  · obtain ⟨hu1, hu2⟩ := wOut_mem.1 hu
    obtain ⟨t9, q9, h1, h2, h3⟩ := h.seat u hu1
    rw [hQ] at h2
    rcases List.mem_cons.1 h2 with e | h2
    · simp only [Prod.mk.injEq] at e
      obtain ⟨e1, rfl⟩ := e
      refine ⟨t9, q', h1, by rw [e1]; exact List.mem_cons_self .., ?_⟩
      rw [hq] at h3
      rw [hql]
      rcases List.mem_append.1 h3 with h3 | h3
      · exact List.mem_append_left _ h3
      · rcases List.mem_cons.1 h3 with h3 | h3
        · simp only [Prod.mk.injEq] at h3; exact absurd h3.2 hu2
        · exact List.mem_append_right _ h3
    · exact ⟨t9, q9, h1, List.mem_cons_of_mem _ h2, h3⟩
theorem PkIs.step (h : PkIs N s l) (fr to i : Int) (hf : fr ≠ 2) (hto : to ≠ 2) {t' : TkM} (ht : TkIs (stepR s.sm s.qm fr to i).2.1 (stepR s.sm s.qm fr to i).2.2 t') (htn : t'.n ≤ N + 1) : PkIs (N + 1) (s.step fr to i) { l with t := t' } :=
  ⟨h.ps.step_ fr to i hf hto, ht, htn, by show l.seats.length = (stepR _ _ _ _ _).2.1.length; rw [stepR_len, h.ln], h.mpk, fun x hx => ⟨⟨(h.q x hx).1.qk, (h.q x hx).1.mp, by have := (h.q x hx).1.n; omega⟩, (h.q x hx).2⟩, h.seat⟩
/-- The queue of a parked task comes first. -/
theorem PkIs.at_ (h : PkIs N s l) {w : Wt} (hw : w ∈ s.W) : ∃ (t : Nat) (q : QM) (R : List (Sp × QM)) (A B : List (Nat × Int)), l.seats[w.i]? = some (w.at_, t) ∧ l.QL.Perm ((w.at_, q) :: R) ∧ q.l = A ++ (t, (w.i : Int)) :: B := by
  obtain ⟨t, q, h1, h2, h3⟩ := h.seat w hw
  obtain ⟨A, B, e⟩ := List.append_of_mem h3
  obtain ⟨P, Q, e2⟩ := List.append_of_mem h2
  exact ⟨t, q, P ++ Q, A, B, h1, by rw [e2]; exact List.perm_middle, e⟩
theorem key_or (l : PkM) (a : Sp) : a ∉ l.QL.map (·.1) ∨ ∃ (q : QM) (R : List (Sp × QM)), l.QL.Perm ((a, q) :: R) := by
  by_cases h : a ∈ l.QL.map (·.1)
  · obtain ⟨⟨a2, q⟩, hx, rfl⟩ := List.mem_map.1 h
    obtain ⟨P, Q, e⟩ := List.append_of_mem hx
    exact .inr ⟨q, P ++ Q, by rw [e]; exact List.perm_middle⟩
  · exact .inl h
end

end Go.Proofs.Ytljmeemgjbcgeaa
