/-
  Chapter 48 (balance), part StepL: contracts of functions that the laws call, each for the heap it names.
-/
import Derived.Test.YtiokpmgbabpikaaLmL
set_option linter.unusedVariables false
set_option maxRecDepth 20000
namespace Go.Proofs.Ytiokpmgbabpikaa


section
variable {α : Type} {enc : α → List Value} {k : Nat}
theorem at_pre (A R : List α) (tl : List Value) : At ((A ++ R).flatMap enc ++ tl) 0 (A.flatMap enc) := fun j v hj => by
  rw [Nat.zero_add, List.flatMap_append, List.append_assoc, List.getElem?_append_left (List.getElem?_eq_some_iff.1 hj).1]; exact hj
theorem at_suf (hk : ∀ x, (enc x).length = k) (A B : List α) (x : α) (tl : List Value) (c : Nat) (hc : (A ++ x :: B).length ≤ c) : At ((A ++ x :: B).flatMap enc ++ tl) (if c = A.length + 1 then 0 else 0 + (A.length + 1) * k) (B.flatMap enc) := by
  rw [List.length_append, List.length_cons] at hc
  split
  · have : B = [] := List.eq_nil_of_length_eq_zero (by omega)
    subst this
    intro j v hj; simp at hj
  · intro j v hj
    rw [show A ++ x :: B = (A ++ [x]) ++ B by simp, List.flatMap_append, List.append_assoc, Nat.zero_add]
    have hl : ((A ++ [x]).flatMap enc).length = (A.length + 1) * k := by rw [fm_length hk, List.length_append]; rfl
    rw [← hl, List.getElem?_append_right (by omega), Nat.add_sub_cancel_left, List.getElem?_append_left (List.getElem?_eq_some_iff.1 hj).1]
    exact hj
end
section
variable {k : Nat} {L L2 : List Bk}
theorem vq_vw (k : Nat) (x : Bk) : vq k x = ((vw x).1, if k = 3 then (vw x).2.1 else 0, (vw x).2.2) := rfl
theorem vq_of (h : L.map vw = L2.map vw) (k : Nat) : L.map (vq k) = L2.map (vq k) := by
  have e : ∀ M : List Bk, M.map (vq k) = (M.map vw).map (fun v => (v.1, if k = 3 then v.2.1 else 0, v.2.2)) := fun M => by
    rw [List.map_map]; exact List.map_congr_left fun x _ => vq_vw k x
  rw [e, e, h]
theorem vw_of (h : L.map (vq 3) = L2.map (vq 3)) : L.map vw = L2.map vw := by
  have e : ∀ M : List Bk, M.map (vq 3) = M.map vw := fun M => List.map_congr_left fun x _ => by rw [vq_vw, if_pos rfl]
  rw [← e, ← e, h]
theorem cq_len (h : L.map (vq k) = L2.map (vq k)) : L.length = L2.length := by
  have := congrArg List.length h
  rwa [List.length_map, List.length_map] at this
theorem cq_gB (h : L.map (vq k) = L2.map (vq k)) (a : Int) : vq k (gB L a) = vq k (gB L2 a) := by
  have e : ∀ M : List Bk, vq k (gB M a) = ((M.map (vq k))[a.toNat]?).getD (vq k zeroK) := fun M => by
    unfold gB
    rw [List.getElem?_map]
    cases M[a.toNat]? <;> rfl
  rw [e, e, h]
theorem cq_w (h : L.map (vq k) = L2.map (vq k)) (a : Int) : (gB L a).w = (gB L2 a).w := congrArg (fun v : Vw => v.1) (cq_gB h a)
theorem cq_act (h : L.map (vq k) = L2.map (vq k)) (a : Int) : (gB L a).act = (gB L2 a).act := congrArg (fun v : Vw => v.2.2.1) (cq_gB h a)
theorem cq_up (h : L.map (vq k) = L2.map (vq k)) (a : Int) : (gB L a).up = (gB L2 a).up := congrArg (fun v : Vw => v.2.2.2.1) (cq_gB h a)
theorem cq_b (h : L.map (vq k) = L2.map (vq k)) (a : Int) : (gB L a).b = (gB L2 a).b := congrArg (fun v : Vw => v.2.2.2.2) (cq_gB h a)
theorem cq_sh (h : L.map (vq k) = L2.map (vq k)) (a : Int) : (if k = 3 then (gB L a).sh else 0) = (if k = 3 then (gB L2 a).sh else 0) := congrArg (fun v : Vw => v.2.1) (cq_gB h a)
theorem cq_cand (h : L.map (vq k) = L2.map (vq k)) (now : Nat) : cand L now = cand L2 now := by
  have e : ∀ (M : List Bk) (i : Nat), okAt M now i = match (M.map (vq k))[i]? with
      | some v => v.2.2.2.1 && decide (rdB v.2.2.2.2 now)
      | none => false := fun M i => by
    unfold okAt
    rw [List.getElem?_map]
    cases M[i]? <;> rfl
  unfold cand candK
  rw [cq_len h, show okAt L now = okAt L2 now from funext fun i => by rw [e, e, h]]
theorem cq_pickI (h : L.map (vq k) = L2.map (vq k)) (nx : Nat) (key : ByteArray) (l : List Int) : pickI k L nx key l = pickI k L2 nx key l := by
  by_cases h3 : k = 3
  · subst h3; exact cv_pickI (vw_of h) 3 nx key l
  · unfold pickI
    rw [if_neg h3, if_neg h3]
    have : leastI L l = leastI L2 l := by
      unfold leastI leastQ
      exact sel_congr fun a _ b _ => by rw [cq_act h, cq_act h, cq_w h, cq_w h]
    rw [this]
theorem mask_set (h3 : k ≠ 3) (L : List Bk) (a s : Int) : (L.set a.toNat { gB L a with sh := s }).map (vq k) = L.map (vq k) := by
  rw [List.map_set]
  by_cases hl : a.toNat < L.length
  · obtain ⟨x, hx⟩ := getE hl
    have hg : gB L a = x := by unfold gB; rw [hx]; rfl
    refine set_same ?_
    rw [List.getElem?_map, hx, hg]
    show some (vq k x) = some (vq k { x with sh := s })
    rw [vq_vw, vq_vw, if_neg h3, if_neg h3]; rfl
  · rw [List.set_eq_of_length_le (by rw [List.length_map]; omega)]
theorem mask_bump (h3 : k ≠ 3) (l : List Int) : ∀ L : List Bk, (bump L l).map (vq k) = L.map (vq k) := by
  induction l with
  | nil => intro L; rfl
  | cons a r ih => intro L; exact (ih (bump1 L a)).trans (mask_set h3 L a _)
theorem cq_ch (h : L.map (vq k) = L2.map (vq k)) (nx : Nat) (key : ByteArray) {l : List Int} (hl : l ≠ []) : (chL k L nx key l).map (vq k) = (pickL k L2 l).map (vq k) := by
  by_cases h1 : k = 1
  · subst h1; unfold chL pickL; rw [if_pos (.inl rfl), if_neg (by decide)]; exact h
  · unfold chL pickL
    rw [if_neg (fun q => q.elim h1 hl)]
    by_cases h3 : k = 3
    · subst h3
      rw [if_pos rfl]
      have hv := vw_of h
      refine vq_of ?_ 3
      rw [show pickI 3 L nx key l = weiI (bump L2 l) l from (cv_pickI hv 3 nx key l).trans rfl, cv_sumW hv]
      exact cv_drop1 (cv_bump l hv) _ _
    · rw [if_neg h3]
      exact (mask_set h3 _ _ _).trans ((mask_bump h3 l L).trans h)
end
theorem Rel.to {N : Nat} {m : Bm} {s : BS} {l : Lm} (hb : BIs N m s) (hr : Rel s l) : l.L.map (Go.Proofs.Ytiokpmgbabpikaa.vq s.k) = m.L.map (Go.Proofs.Ytiokpmgbabpikaa.vq s.k) := hr.q.trans (vq_of hb.un s.k).symm
theorem Rel.get {N : Nat} {m : Bm} {s : BS} {l : Lm} (hb : BIs N m s) (hr : Rel s l) {i : Nat} {x : Bk} (hx : l.L[i]? = some x) : ∃ y, m.L[i]? = some y ∧ x.w = y.w ∧ x.act = y.act ∧ x.up = y.up ∧ x.b = y.b := by
  have h := hr.to hb
  obtain ⟨y, hy⟩ := getE (T := m.L) (i := i) (by rw [← cq_len h]; exact (List.getElem?_eq_some_iff.1 hx).1)
  have e := cq_gB h (i : Int)
  rw [gB_at hx, gB_at hy] at e
  exact ⟨y, hy, congrArg (fun v : Vw => v.1) e, congrArg (fun v : Vw => v.2.2.1) e, congrArg (fun v : Vw => v.2.2.2.1) e, congrArg (fun v : Vw => v.2.2.2.2) e⟩
theorem Rel.mem {N : Nat} {m : Bm} {s : BS} {l : Lm} (hb : BIs N m s) (hr : Rel s l) : ∀ x ∈ l.L, ∃ y ∈ m.L, x.w = y.w ∧ x.act = y.act ∧ x.up = y.up ∧ x.b = y.b := fun x hx => by
  obtain ⟨i, hi⟩ := List.mem_iff_getElem?.1 hx
  obtain ⟨y, hy, h⟩ := hr.get hb hi
  exact ⟨y, List.mem_of_getElem? hy, h⟩
theorem Rel.fit {N : Nat} {m : Bm} {s : BS} {l : Lm} (hb : BIs N m s) (hr : Rel s l) {now : Nat} (hn : s.last ≤ now) : ∀ x ∈ l.L, Fit x.b ∧ x.b.last ≤ now := fun x hx => by
  obtain ⟨y, hy, _, _, _, e⟩ := hr.mem hb x hx
  have := hb.is.fit y hy
  rw [e]; exact ⟨this.1, by have := hb.last; omega⟩
theorem Rel.w {N : Nat} {m : Bm} {s : BS} {l : Lm} (hb : BIs N m s) (hr : Rel s l) : ∀ x ∈ l.L, 1 ≤ x.w ∧ x.w ≤ 100 := fun x hx => by
  obtain ⟨y, hy, e, _⟩ := hr.mem hb x hx
  rw [e]; exact hb.is.w y hy
theorem Rel.act {N : Nat} {m : Bm} {s : BS} {l : Lm} (hb : BIs N m s) (hr : Rel s l) : ∀ x ∈ l.L, -(N : Int) ≤ x.act ∧ x.act ≤ N := fun x hx => by
  obtain ⟨y, hy, _, e, _⟩ := hr.mem hb x hx
  rw [e]; exact hb.is.act y hy
theorem Rel.candE {s : BS} {l : Lm} (hr : Rel s l) (now : Nat) : Go.Proofs.Ytiokpmgbabpikaa.cand l.L now = s.cand now := cq_cand hr.q now
theorem Rel.pick {s : BS} {l : Lm} (hr : Rel s l) (key : ByteArray) (now : Nat) : pickI l.kd l.L l.nx key (Go.Proofs.Ytiokpmgbabpikaa.cand l.L now) = s.pickI key now := by
  rw [hr.candE, hr.k, hr.nx]; exact cq_pickI hr.q _ _ _
/-- What the law's pick makes of its backends. -/
def lpS (l : Lm) (key : ByteArray) (now i : Nat) : List Bk := (chL l.kd l.L l.nx key (cand l.L now)).set i { gB (chL l.kd l.L l.nx key (cand l.L now)) (i : Int) with act := (gB l.L (i : Int)).act + 1, b := alB (gB l.L (i : Int)).b now }
theorem lpS_len (l : Lm) (key : ByteArray) (now i : Nat) : (lpS l key now i).length = l.L.length := by unfold lpS; rw [List.length_set, chL_len]
theorem Rel.picked {s : BS} {l : Lm} (hr : Rel s l) {key : ByteArray} {now i : Nat} (hne : s.cand now ≠ []) (hi : s.pickI key now = (i : Int)) (hn : l.n = s.V.length) {lo2 lc2 : Nat} {lt2 : List Value} {co2 : Option Nat} {cc2 : Nat} {ct2 : List Value} :
    Rel (s.pick key now) { l with lo := lo2, lc := lc2, tl := lt2, L := lpS l key now i, nx := chN l.kd l.n l.nx (cand l.L now), gv := l.gv + 1, last := now, co := co2, cc := cc2, ct := ct2, CL := l.CL ++ [(((l.gv + 1 : Nat) : Int), ((i : Int), (alB (gB l.L (i : Int)).b now).gen))] } := by
  have hne' : cand l.L now ≠ [] := by rw [hr.candE]; exact hne
  refine ⟨hr.k, ?_, ?_, ?_, rfl, ?_⟩
  · show (lpS l key now i).map (vq s.k) = (un ((pickS s.k (un s.V) now (s.cand now) (s.pickI key now).toNat).map vw)).map (vq s.k)
    have e1 : (un ((pickS s.k (un s.V) now (s.cand now) (s.pickI key now).toNat).map vw)).map (vq s.k) = (pickS s.k (un s.V) now (s.cand now) (s.pickI key now).toNat).map (vq s.k) := vq_of (vw_un _) s.k
    rw [e1, hi, Int.toNat_natCast]
    unfold lpS pickS
    have hc := cq_ch hr.q l.nx key hne'
    rw [hr.candE] at hc ⊢
    rw [hr.k] at *
    rw [List.map_set, List.map_set, hc]
    refine congrArg _ ?_
    have hg := cq_gB hc (i : Int)
    have g1 := cq_act hr.q (i : Int)
    have g2 := cq_b hr.q (i : Int)
    rw [g1, g2]
    have k1 : (gB (chL s.k l.L l.nx key (s.cand now)) (i : Int)).w = (gB (pickL s.k (un s.V) (s.cand now)) (i : Int)).w := congrArg (fun v : Vw => v.1) hg
    have k2 : (if s.k = 3 then (gB (chL s.k l.L l.nx key (s.cand now)) (i : Int)).sh else 0) = (if s.k = 3 then (gB (pickL s.k (un s.V) (s.cand now)) (i : Int)).sh else 0) := congrArg (fun v : Vw => v.2.1) hg
    have k3 : (gB (chL s.k l.L l.nx key (s.cand now)) (i : Int)).up = (gB (pickL s.k (un s.V) (s.cand now)) (i : Int)).up := congrArg (fun v : Vw => v.2.2.2.1) hg
    unfold vq
    dsimp only
    rw [k1, k2, k3]
  · show chN l.kd l.n l.nx (cand l.L now) = pickN s.k s.V.length s.nx (s.cand now)
    unfold chN
    rw [if_neg hne', hr.candE, hr.k, hr.nx, hn]
  · show l.gv + 1 = s.gv + 1
    rw [hr.gv]
  · show l.CL ++ _ = (_ :: s.C).reverse
    rw [List.reverse_cons, hr.C, hi, hr.gv, cq_b hr.q]
theorem chL_sh {k : Nat} {L : List Bk} {nx : Nat} {key : ByteArray} {now : Nat} (hw : ∀ y ∈ L, 1 ≤ y.w ∧ y.w ≤ 100) (hn : L.length ≤ 64) : ∀ x ∈ chL k L nx key (cand L now), ∃ y ∈ L, y.sh - 6400 ≤ x.sh ∧ x.sh ≤ y.sh + 6400 := by
  have hin : ∀ a ∈ cand L now, ∃ (i : Nat) (x : Bk), a = (i : Int) ∧ L[i]? = some x := fun a ha => by
    obtain ⟨i, x, h1, h2, _⟩ := cand_mem ha
    exact ⟨i, x, h1, h2⟩
  have hcl : (cand L now).length ≤ L.length := candK_len L now L.length
  have hs := sumW_in L hw (cand L now) hin
  intro x hx
  unfold chL at hx
  split at hx
  · exact ⟨x, hx, by omega, by omega⟩
  · unfold drop1 at hx
    have hbm : ∀ z ∈ bump L (cand L now), ∃ y ∈ L, y.sh ≤ z.sh ∧ z.sh ≤ y.sh + 6400 := fun z hz => by
      obtain ⟨j, hj⟩ := List.mem_iff_getElem?.1 hz
      obtain ⟨y, hy, _, b1, b2⟩ := bump_get _ hw hj
      exact ⟨y, List.mem_of_getElem? hy, b1, by omega⟩
    by_cases hl : (pickI k L nx key (cand L now)).toNat < (bump L (cand L now)).length
    · rcases set_mem hx with rfl | hx
      · obtain ⟨z, hz⟩ := getE hl
        have hg : gB (bump L (cand L now)) (pickI k L nx key (cand L now)) = z := by unfold gB; rw [hz]; rfl
        obtain ⟨y, hy, b1, b2⟩ := hbm z (List.mem_of_getElem? hz)
        rw [hg]
        exact ⟨y, hy, by dsimp only; omega, by dsimp only; omega⟩
      · obtain ⟨y, hy, b1, b2⟩ := hbm x hx
        exact ⟨y, hy, by omega, by omega⟩
    · rw [List.set_eq_of_length_le (by omega)] at hx
      obtain ⟨y, hy, b1, b2⟩ := hbm x hx
      exact ⟨y, hy, by omega, by omega⟩
theorem Rel.keys {N : Nat} {m : Bm} {s : BS} {l : Lm} (hb : BIs N m s) (hr : Rel s l) : (l.CL.map (·.1)).Nodup := by
  rw [hr.C, List.map_reverse]
  exact (List.reverse_perm _).nodup_iff.2 hb.is.mp.nodup
theorem first_at : ∀ {l : List Cl} {n : Int}, n ∈ l.map (·.1) → ∃ A x B, l = A ++ x :: B ∧ x.1 = n ∧ ∀ c ∈ A, c.1 ≠ n
  | [], n, h => by cases h
  | c :: r, n, h => by
    by_cases e : c.1 = n
    · exact ⟨[], c, r, rfl, e, fun c hc => by cases hc⟩
    · obtain ⟨A, x, B, h1, h2, h3⟩ := first_at (l := r) (n := n) (by
        rcases List.mem_cons.1 h with h | h
        · exact absurd h.symm e
        · exact h)
      exact ⟨c :: A, x, B, by rw [h1]; rfl, h2, fun d hd => by rcases List.mem_cons.1 hd with rfl | hd; exact e; exact h3 d hd⟩
theorem del_rev {C CL A B : List Cl} {x : Cl} {n : Int} (h : CL = C.reverse) (hs : CL = A ++ x :: B) (hx : x.1 = n) (hnd : (CL.map (·.1)).Nodup) : A ++ B = (delL C n).reverse := by
  have e1 : (delL C n).reverse = CL.filter (fun c => decide (c.1 ≠ n)) := by rw [h]; unfold delL; exact (List.filter_reverse ..).symm
  rw [hs, List.map_append, List.map_cons] at hnd
  have h1 : ∀ c ∈ A, c.1 ≠ n := fun c hc e => (List.nodup_append.1 hnd).2.2 c.1 (List.mem_map_of_mem hc) x.1 (by simp) (e.trans hx.symm)
  have h2 : ∀ c ∈ B, c.1 ≠ n := fun c hc e => (List.nodup_cons.1 (List.nodup_append.1 hnd).2.1).1 (by rw [hx, ← e]; exact List.mem_map_of_mem hc)
  rw [e1, hs, List.filter_append, List.filter_cons, if_neg (by simp [hx]), List.filter_eq_self.2 (fun c hc => decide_eq_true (h1 c hc)), List.filter_eq_self.2 (fun c hc => decide_eq_true (h2 c hc))]
theorem Rel.done {s : BS} {l : Lm} (hr : Rel s l) {now : Nat} {n gn : Int} {j : Nat} {good : Bool} {A B : List Cl} {x : Cl} (hs : l.CL = A ++ x :: B) (hx : x.1 = n) (hnd : (l.CL.map (·.1)).Nodup) {lo2 lc2 : Nat} {lt2 : List Value} {co2 : Option Nat} {cc2 : Nat} {ct2 : List Value} :
    Rel (s.done now n j gn good) { l with lo := lo2, lc := lc2, tl := lt2, L := doneS l.L now j gn good, last := now, co := co2, cc := cc2, ct := ct2, CL := A ++ B } := by
  refine ⟨hr.k, ?_, hr.nx, hr.gv, rfl, del_rev hr.C hs hx hnd⟩
  show (doneS l.L now j gn good).map (vq s.k) = (un ((doneS (un s.V) now j gn good).map vw)).map (vq s.k)
  rw [vq_of (vw_un _) s.k]
  unfold doneS
  rw [List.map_set, List.map_set, hr.q]
  refine congrArg _ ?_
  have hg := cq_gB hr.q (j : Int)
  unfold vq at hg ⊢
  dsimp only
  rw [cq_w hr.q, cq_sh hr.q, cq_act hr.q, cq_up hr.q, cq_b hr.q]
theorem Rel.setup {s : BS} {l : Lm} (hr : Rel s l) {i : Nat} {up : Bool} {lo2 lc2 : Nat} {lt2 : List Value} :
    Rel (s.setup i up) { l with lo := lo2, lc := lc2, tl := lt2, L := l.L.set i { gB l.L (i : Int) with up := up } } := by
  refine ⟨hr.k, ?_, hr.nx, hr.gv, hr.last, hr.C⟩
  show (l.L.set i { gB l.L (i : Int) with up := up }).map (vq s.k) = (un (((un s.V).set i { gB (un s.V) (i : Int) with up := up }).map vw)).map (vq s.k)
  rw [vq_of (vw_un _) s.k, List.map_set, List.map_set, hr.q]
  refine congrArg _ ?_
  unfold vq
  dsimp only
  rw [cq_w hr.q, cq_sh hr.q, cq_act hr.q, cq_b hr.q]

end Go.Proofs.Ytiokpmgbabpikaa
