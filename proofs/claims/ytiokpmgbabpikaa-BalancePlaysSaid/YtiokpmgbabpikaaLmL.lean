/-
  Chapter 48 (balance), part LmL: contracts of functions that the laws call, each for the heap it names.
-/
import Derived.Test.YtiokpmgbabpikaaHoldL
set_option linter.unusedVariables false
set_option maxRecDepth 20000
namespace Go.Proofs.Ytiokpmgbabpikaa


abbrev encLB (x : Bk) : List Value := [.int .i64 x.w, .int .i64 x.sh, .int .i64 x.act, .bool (!x.up), ptrB x.p]
theorem encLB5 (x : Bk) : (encLB x).length = 5 := rfl
theorem encLB_one (L : List Bk) : (L.flatMap encLB).all Value.oneCell' = true := fm_all (fun _ => rfl) L
abbrev encCl (c : Cl) : List Value := [.int .i64 c.1, .int .i64 c.2.1, .int .i64 c.2.2]
theorem encCl3 (c : Cl) : (encCl c).length = 3 := rfl
theorem encCl_one (L : List Cl) : (L.flatMap encCl).all Value.oneCell' = true := fm_all (fun _ => rfl) L
structure Lm where
  kd : Nat
  n : Nat
  lo : Nat
  lc : Nat
  tl : List Value
  L : List Bk
  nx : Nat
  gv : Nat
  co : Option Nat
  cc : Nat
  ct : List Value
  CL : List Cl
  last : Nat
abbrev lmC (m : Lm) : List Value := [.int .i64 (m.kd : Int), slV (some m.lo) m.n m.lc, .int .i64 (m.nx : Int), .int .i64 (m.gv : Int), slV m.co m.CL.length m.cc, .int .u64 (m.last : Int)]
abbrev lH1 (m : Lm) : Ent := ⟨some m.lo, cl (m.L.flatMap encLB ++ m.tl) 82⟩
abbrev lH2 (m : Lm) : Ent := ⟨m.co, cl (m.CL.flatMap encCl ++ m.ct) 88⟩
abbrev lmH (m : Lm) : Heap := lH1 m :: lH2 m :: bks m.L
structure LmIs (N : Nat) (m : Lm) : Prop where
  hn : m.L.length = m.n
  n : 1 ≤ m.n ∧ m.n ≤ 64
  o1 : Own (some m.lo) m.n m.lc 5 (m.L.flatMap encLB) m.tl
  o2 : Own m.co m.CL.length m.cc 3 (m.CL.flatMap encCl) m.ct
  sh : ∀ x ∈ m.L, -6400 * (N : Int) ≤ x.sh ∧ x.sh ≤ 6400 * (N : Int)
  nx : m.nx < m.n
  gv : m.gv ≤ N
  cl : m.CL.length ≤ N
/-- A backend, as both sides tell it. -/
def vq (k : Nat) (x : Bk) : Int × Int × Int × Bool × Br := (x.w, if k = 3 then x.sh else 0, x.act, x.up, x.b)
structure Rel (s : BS) (m : Lm) : Prop where
  k : m.kd = s.k
  q : m.L.map (vq s.k) = (un s.V).map (vq s.k)
  nx : m.nx = s.nx
  gv : m.gv = s.gv
  last : m.last = s.last
  C : m.CL = s.C.reverse
theorem own_LB {ob n c : Nat} {L L2 : List Bk} {tl : List Value} (h : Own (some ob) n c 5 (L.flatMap encLB) tl) (hl : L2.length = L.length) : Own (some ob) n c 5 (L2.flatMap encLB) tl := by
  have h1 := h.len
  have h2 := h.cap
  rw [fm_length encLB5] at h1 h2
  exact ⟨by rw [fm_length encLB5, hl]; exact h1, by rw [fm_length encLB5, hl]; exact h2, h.le, h.big, fun e => by cases e⟩
/-! sorted lists -/
abbrev Srt (l : List Int) : Prop := l.Pairwise (· < ·)
theorem cand_srt (L : List Bk) (now k : Nat) : Srt (candK L now k) := by
  unfold candK
  refine List.pairwise_map.2 (List.Pairwise.imp (fun h => Int.ofNat_lt.2 h) (List.Pairwise.filter _ List.pairwise_lt_range))
theorem candK_mem {L : List Bk} {now k i : Nat} : (i : Int) ∈ candK L now k ↔ i < k ∧ okAt L now i = true := by
  unfold candK
  rw [List.mem_map]
  constructor
  · rintro ⟨j, hj, e⟩
    obtain rfl : j = i := by omega
    obtain ⟨h1, h2⟩ := List.mem_filter.1 hj
    exact ⟨List.mem_range.1 h1, h2⟩
  · rintro ⟨h1, h2⟩
    exact ⟨i, List.mem_filter.2 ⟨List.mem_range.2 h1, h2⟩, rfl⟩
theorem srt_first {l : List Int} (h : Srt l) {x : Int} (hx : x ∈ l) (hm : ∀ a ∈ l, x ≤ a) : l[0]? = some x := by
  cases l with
  | nil => cases hx
  | cons y r =>
    rcases List.mem_cons.1 hx with rfl | hx
    · rfl
    · have := (List.pairwise_cons.1 h).1 x hx
      have := hm y (by simp)
      omega
theorem srt_idx {p : Int → Bool} : ∀ {l : List Int}, Srt l → ∀ {x : Int}, x ∈ l → p x = true → (∀ a ∈ l, p a = true → x ≤ a) → ∃ j : Nat, idxF p l = (j : Int) ∧ l[j]? = some x
  | [], _, x, hx, _, _ => by cases hx
  | y :: r, h, x, hx, hp, hm => by
    obtain ⟨h1, h2⟩ := List.pairwise_cons.1 h
    by_cases hy : p y = true
    · have hxy := hm y (by simp) hy
      obtain rfl : x = y := by
        rcases List.mem_cons.1 hx with rfl | hx
        · rfl
        · have := h1 x hx; omega
      exact ⟨0, by unfold idxF; rw [if_pos hy]; rfl, rfl⟩
    · have hxr : x ∈ r := by
        rcases List.mem_cons.1 hx with rfl | hx
        · exact absurd hp hy
        · exact hx
      obtain ⟨j, e1, e2⟩ := srt_idx h2 hxr hp (fun a ha => hm a (by simp [ha]))
      exact ⟨j + 1, by unfold idxF; rw [if_neg hy, e1, if_neg (by omega)]; omega, by simpa using e2⟩
theorem turn_hit {L : List Bk} {now nx n k : Nat} (hn : L.length = n) (hk : k < n) (hx : nx < n) (h1 : ∀ j, j < k → okAt L now ((nx + j) % n) = false) (h2 : okAt L now ((nx + k) % n) = true) : turnI nx (cand L now) = (((nx + k) % n : Nat) : Int) := by
  have hin : ((((nx + k) % n : Nat)) : Int) ∈ cand L now := candK_mem.2 ⟨by rw [hn]; exact Nat.mod_lt _ (by omega), h2⟩
  have hmem : ∀ a ∈ cand L now, ∃ i : Nat, a = (i : Int) ∧ i < n ∧ okAt L now i = true := fun a ha => by
    obtain ⟨i, x, rfl, _⟩ := cand_mem ha
    have := candK_mem.1 ha
    exact ⟨i, rfl, by rw [← hn]; exact this.1, this.2⟩
  unfold turnI
  by_cases hc : nx + k < n
  · rw [Nat.mod_eq_of_lt hc] at hin ⊢
    obtain ⟨j, e1, e2⟩ := srt_idx (p := fun i => decide ((nx : Int) ≤ i)) (cand_srt L now L.length) hin (by simp; omega) (fun a ha hp => by
      obtain ⟨i, rfl, hi, hok⟩ := hmem a ha
      have hp := of_decide_eq_true hp
      refine Int.not_lt.1 fun hlt => ?_
      have := h1 (i - nx) (by omega)
      rw [show nx + (i - nx) = i by omega, Nat.mod_eq_of_lt hi, hok] at this
      cases this)
    rw [e1, show (max 0 (j : Int)).toNat = j by omega, e2]; rfl
  · have hm : (nx + k) % n = nx + k - n := by rw [Nat.mod_eq_sub_mod (by omega), Nat.mod_eq_of_lt (by omega)]
    rw [hm] at hin ⊢
    have hno : idxF (fun i => decide ((nx : Int) ≤ i)) (cand L now) = -1 := idxF_none fun a ha => by
      obtain ⟨i, rfl, hi, hok⟩ := hmem a ha
      refine decide_eq_false fun hle => ?_
      have := h1 (i - nx) (by omega)
      rw [show nx + (i - nx) = i by omega, Nat.mod_eq_of_lt hi, hok] at this
      cases this
    have hf := srt_first (cand_srt L now L.length) hin (fun a ha => by
      obtain ⟨i, rfl, hi, hok⟩ := hmem a ha
      refine Int.not_lt.1 fun hlt => ?_
      have := h1 (i + n - nx) (by omega)
      rw [show nx + (i + n - nx) = i + n by omega, Nat.add_mod_right, Nat.mod_eq_of_lt hi, hok] at this
      cases this)
    rw [hno, show (max 0 (-1 : Int)).toNat = 0 by decide, hf]; rfl
theorem turn_none {L : List Bk} {now nx n : Nat} (hn : L.length = n) (hx : nx < n) (h1 : ∀ j, j < n → okAt L now ((nx + j) % n) = false) : cand L now = [] := by
  cases h : cand L now with
  | nil => rfl
  | cons a r =>
    have ha : a ∈ cand L now := by rw [h]; simp
    obtain ⟨i, x, rfl, _⟩ := cand_mem ha
    obtain ⟨hi, hok⟩ := candK_mem.1 ha
    rw [hn] at hi
    by_cases hc : nx ≤ i
    · have := h1 (i - nx) (by omega)
      rw [show nx + (i - nx) = i by omega, Nat.mod_eq_of_lt hi, hok] at this
      cases this
    · have := h1 (i + n - nx) (by omega)
      rw [show nx + (i + n - nx) = i + n by omega, Nat.add_mod_right, Nat.mod_eq_of_lt hi, hok] at this
      cases this
theorem turn_next {n i : Nat} (hi : i < n) : turnN n (i : Int) = (i + 1) % n := by
  rw [turnN_nat]
  split
  · rename_i e; rw [e, Nat.mod_self]
  · rw [Nat.mod_eq_of_lt (by omega)]
/-! the best one -/
def lawQ (k : Nat) (L : List Bk) (key : ByteArray) (a b : Int) : Bool :=
  if k = 3 then decide ((gB L b).sh + (gB L b).w < (gB L a).sh + (gB L a).w) else if k = 4 then decide (sco key b < sco key a) else decide ((gB L a).act * (gB L b).w < (gB L b).act * (gB L a).w)
theorem bumpK {L : List Bk} {now : Nat} : ∀ (k : Nat), k ≤ L.length → ∀ i, (bump L (candK L now k))[i]? = (L[i]?).map (fun x => if i < k ∧ okAt L now i = true then bumpF x else x)
  | 0, _, i => by
    show (bump L ((List.filter (okAt L now) (List.range 0)).map _))[i]? = _
    show L[i]? = _
    cases L[i]? with
    | none => rfl
    | some x => simp
  | k + 1, h, i => by
    have ih := bumpK (L := L) (now := now) k (by omega)
    rw [candK_next]
    by_cases hk : okAt L now k = true
    · rw [if_pos hk]
      obtain ⟨x, hx⟩ := getE (T := L) (i := k) (by omega)
      have hb : (bump L (candK L now k))[k]? = some x := by rw [ih k, hx]; simp
      have e : bump L (candK L now k ++ [(k : Int)]) = bump1 (bump L (candK L now k)) (k : Int) := by unfold bump; rw [List.foldl_append]; rfl
      rw [e, bump1_at hb, List.getElem?_set]
      by_cases hi : k = i
      · subst hi
        rw [if_pos rfl, if_pos (by rw [bump_len]; omega), hx]
        simp [hk, bumpF]
      · rw [if_neg hi, ih i]
        congr 1
        funext y
        by_cases q : i < k ∧ okAt L now i = true
        · rw [if_pos q, if_pos ⟨by omega, q.2⟩]
        · rw [if_neg q, if_neg (fun q2 => q ⟨by omega, q2.2⟩)]
    · rw [if_neg hk, List.append_nil, ih i]
      congr 1
      funext y
      by_cases q : i < k ∧ okAt L now i = true
      · rw [if_pos q, if_pos ⟨by omega, q.2⟩]
      · rw [if_neg q, if_neg (fun q2 => q ⟨by
          rcases Nat.lt_or_ge i k with h3 | h3
          · exact h3
          · obtain rfl : i = k := by omega
            exact absurd q2.2 hk, q2.2⟩)]
theorem gB_bump {L : List Bk} {now k i : Nat} (hk : k ≤ L.length) (hi : (i : Int) ∈ candK L now k) : gB (bump L (candK L now k)) (i : Int) = bumpF (gB L (i : Int)) := by
  obtain ⟨h1, h2⟩ := candK_mem.1 hi
  obtain ⟨x, hx⟩ := getE (T := L) (i := i) (by omega)
  have := bumpK (L := L) (now := now) k hk i
  rw [hx] at this
  rw [gB_at hx, gB_at this]
  simp [h1, h2]
theorem sel_srt {q q' : Int → Int → Bool} {l : List Int} (hs : Srt l) (h : ∀ a ∈ l, ∀ b ∈ l, b < a → q a b = q' a b) : sel q l = sel q' l := by
  cases l with
  | nil => rfl
  | cons x r =>
    show r.foldl _ x = r.foldl _ x
    have key : ∀ (s : List Int) (y : Int), (∀ v ∈ s, v ∈ x :: r) → y ∈ x :: r → (∀ v ∈ s, y < v) → Srt s → s.foldl (fun m a => if q a m = true then a else m) y = s.foldl (fun m a => if q' a m = true then a else m) y := by
      intro s
      induction s with
      | nil => intro y _ _ _ _; rfl
      | cons z s ih =>
        intro y hs1 hy hlt hsr
        obtain ⟨z1, z2⟩ := List.pairwise_cons.1 hsr
        rw [List.foldl_cons, List.foldl_cons, h z (hs1 z (by simp)) y hy (hlt z (by simp))]
        refine ih _ (fun v hv => hs1 v (by simp [hv])) ?_ (fun v hv => ?_) z2
        · split
          · exact hs1 z (by simp)
          · exact hy
        · split
          · exact z1 v hv
          · exact hlt v (by simp [hv])
    obtain ⟨h1, h2⟩ := List.pairwise_cons.1 hs
    exact key r x (fun v hv => by simp [hv]) (by simp) h1 h2
theorem least_neg {L : List Bk} {a b : Int} : leastQ L a b < 0 ↔ (gB L a).act * (gB L b).w < (gB L b).act * (gB L a).w := by
  unfold leastQ cmpI
  (repeat' split) <;> omega
theorem law_pick {L : List Bk} {now k nx : Nat} {key : ByteArray} (h1 : k ≠ 1) (h2 : 1 ≤ k ∧ k ≤ 4) : sel (lawQ k L key) (cand L now) = pickI k L nx key (cand L now) := by
  unfold pickI
  rw [if_neg h1]
  have hk : k = 2 ∨ k = 3 ∨ k = 4 := by omega
  rcases hk with rfl | rfl | rfl
  · rw [if_pos rfl]
    refine sel_srt (cand_srt L now _) fun a _ b _ _ => ?_
    unfold lawQ
    rw [if_neg (by decide), if_neg (by decide)]
    exact decide_eq_decide.2 least_neg.symm
  · rw [if_neg (by decide), if_pos rfl]
    refine sel_srt (cand_srt L now _) fun a ha b hb hlt => ?_
    obtain ⟨i, x, rfl, _⟩ := cand_mem ha
    obtain ⟨j, y, rfl, _⟩ := cand_mem hb
    unfold lawQ
    rw [if_pos rfl]
    refine decide_eq_decide.2 (Iff.trans ?_ wei_pos.symm)
    rw [gB_bump (Nat.le_refl _) ha, gB_bump (Nat.le_refl _) hb]
    show _ ↔ (gB L (j : Int)).sh + (gB L (j : Int)).w < (gB L (i : Int)).sh + (gB L (i : Int)).w ∨ _
    constructor
    · exact .inl
    · rintro (h | ⟨_, h⟩)
      · exact h
      · omega
  · rw [if_neg (by decide), if_neg (by decide)]
    refine sel_srt (cand_srt L now _) fun a _ b _ hlt => ?_
    unfold lawQ
    rw [if_neg (by decide), if_pos rfl]
    refine decide_eq_decide.2 (Iff.trans ?_ hash_pos.symm)
    unfold Rk
    omega
/-- What the law's choice makes of its backends. -/
def chL (k : Nat) (L : List Bk) (nx : Nat) (key : ByteArray) (l : List Int) : List Bk := if k = 1 ∨ l = [] then L else drop1 (bump L l) (pickI k L nx key l) (sumW L l)
def chI (k : Nat) (L : List Bk) (nx : Nat) (key : ByteArray) (l : List Int) : Int := if l = [] then -1 else pickI k L nx key l
def chN (k : Nat) (n nx : Nat) (l : List Int) : Nat := if l = [] then nx else pickN k n nx l
theorem chL_len (k : Nat) (L : List Bk) (nx : Nat) (key : ByteArray) (l : List Int) : (chL k L nx key l).length = L.length := by
  unfold chL
  split
  · rfl
  · unfold drop1; rw [List.length_set, bump_len]
theorem chL_bks (k : Nat) (L : List Bk) (nx : Nat) (key : ByteArray) (l : List Int) : bks (chL k L nx key l) = bks L := by
  unfold chL
  split
  · rfl
  · rw [bks_drop1, bks_bump]
structure ChW where
  i : Nat
  b : Int

end Go.Proofs.Ytiokpmgbabpikaa
